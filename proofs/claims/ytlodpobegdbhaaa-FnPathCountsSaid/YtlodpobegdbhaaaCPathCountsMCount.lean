/- Counts of walks on 0..h by the last step and by the first step; no program in sight. -/
import Derived.RowKit
namespace Go.Proofs.Ytlodpobegdbhaaa.Pl
set_option linter.unusedVariables false
set_option linter.unusedSimpArgs false
/-- what numbers over all heights become by one step -/
def T (lv : Bool) (h : Nat) (f : Nat → Int) : Nat → Int := fun x => if x ≤ h then (if lv = true then f x else 0) + (if x + 1 ≤ h then f (x + 1) else 0) + (if 0 < x then f (x - 1) else 0) else 0
def Tn (lv : Bool) (h : Nat) : Nat → (Nat → Int) → Nat → Int
  | 0, f => f
  | n + 1, f => Tn lv h n (T lv h f)
def e_ (i : Nat) : Nat → Int := fun x => if x = i then 1 else 0
theorem T_add (lv : Bool) (h : Nat) (f g : Nat → Int) : T lv h (fun x => f x + g x) = fun x => T lv h f x + T lv h g x := by
  funext x
  unfold T
  dsimp only
  repeat' split
  all_goals omega
theorem Tn_add (lv : Bool) (h : Nat) : ∀ (n : Nat) (f g : Nat → Int), Tn lv h n (fun x => f x + g x) = fun x => Tn lv h n f x + Tn lv h n g x
  | 0, _, _ => rfl
  | n + 1, f, g => by
    simp only [Tn]
    rw [T_add, Tn_add lv h n]
theorem T_zero (lv : Bool) (h : Nat) : T lv h (fun _ => 0) = fun _ => 0 := by
  funext x
  unfold T
  repeat' split
  all_goals rfl
theorem Tn_zero (lv : Bool) (h : Nat) : ∀ n : Nat, Tn lv h n (fun _ => 0) = fun _ => 0
  | 0 => rfl
  | n + 1 => by simp only [Tn]; rw [T_zero, Tn_zero lv h n]
/-- e_ i, or nothing where i lies above -/
def eIn (h i : Nat) : Nat → Int := if i ≤ h then e_ i else fun _ => 0
def eBel (i : Nat) : Nat → Int := if 0 < i then e_ (i - 1) else fun _ => 0
theorem T_e (lv : Bool) {h i : Nat} (hi : i ≤ h) : T lv h (e_ i) = fun x => (fun x => (if lv = true then e_ i else fun _ => 0) x + eBel i x) x + eIn h (i + 1) x := by
  funext x
  unfold T eBel eIn e_
  cases lv
  all_goals (by_cases h1 : 0 < i <;> by_cases h2 : i + 1 ≤ h <;> simp only [h1, h2, if_true, if_false, Bool.false_eq_true])
  all_goals (repeat' split)
  all_goals omega
theorem Tn_first (lv : Bool) {h i : Nat} (hi : i ≤ h) (n k : Nat) : Tn lv h (n + 1) (e_ i) k = (if lv = true then Tn lv h n (e_ i) k else 0) + (if 0 < i then Tn lv h n (e_ (i - 1)) k else 0) + (if i + 1 ≤ h then Tn lv h n (e_ (i + 1)) k else 0) := by
  simp only [Tn]
  rw [T_e lv hi, Tn_add, Tn_add]
  simp only
  congr 1
  · congr 1
    · cases lv
      · simp [Tn_zero]
      · simp
    · unfold eBel
      split
      · rfl
      · rw [Tn_zero]
  · unfold eIn
    split
    · rfl
    · rw [Tn_zero]
theorem T_bound {lv : Bool} {h : Nat} {f : Nat → Int} {B : Int} (h0 : ∀ x, 0 ≤ f x) (hB : ∀ x, f x ≤ B) (x : Nat) : 0 ≤ T lv h f x ∧ T lv h f x ≤ 3 * B := by
  have a := h0 x
  have b := h0 (x + 1)
  have c := h0 (x - 1)
  have d := hB x
  have e := hB (x + 1)
  have g := hB (x - 1)
  unfold T
  repeat' split
  all_goals omega
theorem Tn_bound {lv : Bool} {h : Nat} : ∀ (n : Nat) {f : Nat → Int} {B : Int}, (∀ x, 0 ≤ f x) → (∀ x, f x ≤ B) → ∀ x, 0 ≤ Tn lv h n f x ∧ Tn lv h n f x ≤ 3 ^ n * B
  | 0, f, B, h0, hB, x => ⟨h0 x, by simpa [Tn] using hB x⟩
  | n + 1, f, B, h0, hB, x => by
    have := Tn_bound (lv := lv) (h := h) n (f := T lv h f) (B := 3 * B) (fun x => (T_bound h0 hB x).1) (fun x => (T_bound h0 hB x).2) x
    simp only [Tn]
    refine ⟨this.1, ?_⟩
    rw [Int.pow_succ, Int.mul_assoc]
    exact this.2
theorem e_bound (i x : Nat) : 0 ≤ e_ i x ∧ e_ i x ≤ 1 := by unfold e_; split <;> omega
theorem T_le {lv : Bool} {h : Nat} {f g : Nat → Int} (h0 : ∀ x, 0 ≤ f x) (hf : ∀ x, f x ≤ g x) (x : Nat) : T false h f x ≤ T true h g x ∧ 0 ≤ T false h f x := by
  have a := h0 x
  have b := h0 (x + 1)
  have c := h0 (x - 1)
  have d := hf x
  have e := hf (x + 1)
  have i := hf (x - 1)
  unfold T
  simp only [Bool.false_eq_true, if_false, if_true]
  repeat' split
  all_goals omega
theorem Tn_le {h : Nat} : ∀ (n : Nat) {f g : Nat → Int}, (∀ x, 0 ≤ f x) → (∀ x, f x ≤ g x) → ∀ x, Tn false h n f x ≤ Tn true h n g x
  | 0, _, _, _, hf, x => hf x
  | n + 1, f, g, h0, hf, x => Tn_le n (fun x => (T_le (lv := true) h0 hf x).2) (fun x => (T_le (lv := true) h0 hf x).1) x
/-- Where nothing comes near the top, the top does not count. -/
theorem T_high {lv : Bool} {h h' m : Nat} {f : Nat → Int} (hf : ∀ x, m < x → f x = 0) (h1 : m + 1 ≤ h) (h2 : m + 1 ≤ h') : T lv h f = T lv h' f ∧ ∀ x, m + 1 < x → T lv h f x = 0 := by
  refine ⟨?_, fun x hx => ?_⟩
  · funext x
    unfold T
    by_cases hx : x ≤ m + 1
    · have a : x + 1 ≤ h ∨ f (x + 1) = 0 := by
        by_cases hm : x + 1 ≤ m
        · exact .inl (by omega)
        · exact .inr (hf _ (by omega))
      have b : x + 1 ≤ h' ∨ f (x + 1) = 0 := by
        by_cases hm : x + 1 ≤ m
        · exact .inl (by omega)
        · exact .inr (hf _ (by omega))
      repeat' split
      all_goals omega
    · have a := hf x (by omega)
      have b := hf (x + 1) (by omega)
      have c := hf (x - 1) (by omega)
      repeat' split
      all_goals omega
  · have a := hf x (by omega)
    have b := hf (x + 1) (by omega)
    have c := hf (x - 1) (by omega)
    unfold T
    repeat' split
    all_goals omega
theorem Tn_high {lv : Bool} {h h' : Nat} : ∀ (n m : Nat) {f : Nat → Int}, (∀ x, m < x → f x = 0) → m + n ≤ h → m + n ≤ h' → Tn lv h n f = Tn lv h' n f
  | 0, _, _, _, _, _ => rfl
  | n + 1, m, f, hf, h1, h2 => by
    simp only [Tn]
    obtain ⟨a, b⟩ := T_high (lv := lv) hf (show m + 1 ≤ h by omega) (show m + 1 ≤ h' by omega)
    rw [a] at b ⊢
    exact Tn_high n (m + 1) b (by omega) (by omega)
/-- numbers over the heights 0..h as a list -/
def vec (h : Nat) (f : Nat → Int) : List Int := (List.range (h + 1)).map f
theorem vec_length (h : Nat) (f : Nat → Int) : (vec h f).length = h + 1 := by simp [vec]
theorem vec_get (h : Nat) (f : Nat → Int) (i : Nat) (hi : i < (vec h f).length) : (vec h f)[i] = f i := by simp [vec]
/-- what a round over the heights below m has put together -/
def part (lv : Bool) (h : Nat) (f : Nat → Int) (m : Nat) : Nat → Int := fun x => (if lv = true ∧ x < m then f x else 0) + (if x + 1 < m then f (x + 1) else 0) + (if 0 < x ∧ x ≤ m then f (x - 1) else 0)
theorem part_zero (lv : Bool) (h : Nat) (f : Nat → Int) : vec h (part lv h f 0) = List.replicate (h + 1) 0 := by
  apply List.ext_getElem
  · simp [vec]
  · intro i h1 h2
    rw [vec_get, List.getElem_replicate]
    unfold part
    repeat' split
    all_goals omega
theorem part_all (lv : Bool) (h : Nat) (f : Nat → Int) : vec h (part lv h f (h + 1)) = vec h (T lv h f) := by
  apply List.ext_getElem
  · simp [vec]
  · intro i h1 h2
    rw [vec_get, vec_get]
    rw [vec_length] at h1
    unfold part T
    cases lv <;> simp only [Bool.false_eq_true, false_and, true_and, if_false, if_true]
    all_goals (repeat' split)
    all_goals omega
def set3 (lv : Bool) (h : Nat) (g : Nat → Int) (m : Nat) (y : Int) : Nat → Int := fun x => g x + (if lv = true ∧ x = m then y else 0) + (if x + 1 = m then y else 0) + (if x = m + 1 then y else 0)
theorem part_succ (lv : Bool) (h : Nat) (f : Nat → Int) (m : Nat) : part lv h f (m + 1) = set3 lv h (part lv h f m) m (f m) := by
  funext x
  unfold part set3
  rcases Nat.lt_trichotomy x m with hx | hx | hx
  · by_cases h1 : x + 1 = m
    · subst h1
      cases lv <;> simp only [Bool.false_eq_true, false_and, true_and, if_false, if_true]
      all_goals (repeat' split)
      all_goals omega
    · cases lv <;> simp only [Bool.false_eq_true, false_and, true_and, if_false, if_true]
      all_goals (repeat' split)
      all_goals omega
  · subst hx
    cases lv <;> simp only [Bool.false_eq_true, false_and, true_and, if_false, if_true]
    all_goals (repeat' split)
    all_goals omega
  · by_cases h1 : x = m + 1
    · subst h1
      have : m + 1 - 1 = m := by omega
      rw [this]
      cases lv <;> simp only [Bool.false_eq_true, false_and, true_and, if_false, if_true]
      all_goals (repeat' split)
      all_goals omega
    · cases lv <;> simp only [Bool.false_eq_true, false_and, true_and, if_false, if_true]
      all_goals (repeat' split)
      all_goals omega
theorem vec_set (h : Nat) (g : Nat → Int) (m : Nat) (y : Int) : (vec h g).set m y = vec h (fun x => if x = m then y else g x) := by
  apply List.ext_getElem
  · simp [vec]
  · intro i h1 h2
    rw [List.getElem_set]
    simp only [vec_get]
    by_cases e : m = i
    · rw [if_pos e, if_pos e.symm]
    · rw [if_neg e, if_neg (Ne.symm e)]
end Go.Proofs.Ytlodpobegdbhaaa.Pl
