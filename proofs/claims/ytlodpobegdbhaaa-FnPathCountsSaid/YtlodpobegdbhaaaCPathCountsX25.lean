/- Contracts of functions that the law reaches, printed by a program of this session; Lean checks them. -/
import Derived.Test.YtlodpobegdbhaaaCPathCountsX0
import Derived.Test.YtlodpobegdbhaaaCPathCountsX22
import Derived.Test.YtlodpobegdbhaaaCPathCountsX23
import Derived.Test.YtlodpobegdbhaaaCPathCountsX24
import Derived.Test.YtlodpobegdbhaaaCPathCountsXZ
namespace Go.Proofs.Ytlodpobegdbhaaa.X
open Go.RowKit Go.Proofs.YtlodpobegdbhaaaW.PrintWords Go.Proofs.YtlodpobegdbhaaaW.PrintLast Go.Proofs.YtlodpobegdbhaaaW.PrintMore
attribute [local go_sem] max2_int min2_int max_two min_two max_three min_three max_four min_four   -- for this text's walks alone
set_option linter.unusedVariables false
set_option linter.unusedSimpArgs false

/-! ### spec_l09Count: function 141 -/
def spec_l09Count.f (k : Nat) (a0 : Int) (a1 : Int) (a2 : Int) (a3 : Int) (a4 : Bool) : Option (Int) := if a2 > a3 then (some 0) else ((spec_l09Counts.f k a0 a1 a3 a4).bind fun t922 => (if 0 ≤ a2 then (if a2 < (t922.length : Int) then (some (rd t922 a2)) else (none)) else (none)))
theorem spec_l09Count.mono : ∀ a0 a1 a2 a3 a4 k, LeO (spec_l09Count.f k a0 a1 a2 a3 a4) (spec_l09Count.f (k + 1) a0 a1 a2 a3 a4) := by
 intro a0 a1 a2 a3 a4 k
 unfold spec_l09Count.f
 repeat' first
   | (with_reducible exact spec_l09Counts.mono _ _ _ _ _)
   | (with_reducible exact LeO.refl _)
   | (with_reducible exact LeO.none _)
   | (with_reducible refine LeO.ite ?_ ?_)
   | (with_reducible refine LeO.bind ?_ (fun _ => ?_))
   | exact spec_l09Counts.mono _ _ _ _ _
   | exact LeO.none _
   | refine LeO.ite ?_ ?_
   | refine LeO.bind ?_ (fun _ => ?_)
set_option maxHeartbeats 8000000 in
set_option maxRecDepth 100000 in
theorem spec_l09Count.calls (k : Nat) (a0 : Int) (a1 : Int) (a2 : Int) (a3 : Int) (a4 : Bool) (r : Int) (w : World) (h : spec_l09Count.f k a0 a1 a2 a3 a4 = some r) :
  Calls Try.prog 141 #[.int .i64 a0, .int .i64 a1, .int .i64 a2, .int .i64 a3, .bool a4] w fun e w' => e = .returned (.int .i64 r) ∧ Below w.heap.size w w' := by
 have HB := Aside0.mk (Below.refl w.heap.size w)
 have H : (if a2 > a3 then (some 0) else ((spec_l09Counts.f k a0 a1 a3 a4).bind fun t922 => (if 0 ≤ a2 then (if a2 < (t922.length : Int) then (some (rd t922 a2)) else (none)) else (none)))) = some r := h
 clear h
 by_cases c6 : a2 > a3
 ·rw [if_pos c6] at H
  have c6b0 : decide (a3 < a2) = true := decide_eq_true c6
  clear c6
  obtain rfl := Option.some.inj H
  go_enter Try.func141, Try.ntmps141
  go_wp2
  go_ret
  exact ⟨ZqR, ZB⟩
 ·rw [if_neg c6] at H
  have c6b0 : decide (a3 < a2) = false := decide_eq_false c6
  clear c6
  replace H := Option.bind_eq_some_iff.mp H
  obtain ⟨t922, A70, H⟩ := H
  try dsimp only at H
  have A7 := Aside0.mk A70
  clear A70
  by_cases c8 : 0 ≤ a2
  ·rw [if_pos c8] at H
   have c8b0 : decide (0 ≤ a2) = true := decide_eq_true c8
   clear c8
   by_cases c9 : a2 < (t922.length : Int)
   ·rw [if_pos c9] at H
    have c9b0 : decide (a2 < (t922.length : Int)) = true := decide_eq_true c9
    clear c9
    obtain rfl := Option.some.inj H
    go_enter Try.func141, Try.ntmps141
    go_wp2_with (first | ((with_reducible refine gate_callee (f := 223) rfl ?_); refine goesL_ (some 18) rfl rfl Try.func223 (by kernel_rfl) rfl #[.int .i64 a0, .int .i64 a1, .int .i64 a3, .bool a4] rfl ZA ?_; (with_reducible refine (spec_l09Counts.calls k a0 a1 a3 a4 t922 _ A7.out).mono ?_); rintro e w10 ⟨v923, rfl, ho0, hb⟩; refine ⟨_, rfl, ?_⟩; have n0_ := Aside0.mk (Kd.R_lower ho0 (below_size ZB)); have n1_ := Aside0.mk (below_step ZB hb); clear HB; have HO924 := n0_; have HB := n1_; clear n0_ n1_; (try clear hb); (try clear ho0); obtain ⟨Ao11, co11, eo11⟩ := Kd.R_slice HO924.out; subst eo11; have p925 : 0 ≤ (a2 : Int) := of_decide_eq_true (by first | (with_reducible assumption) | assumption); have q925 : a2 < (t922.length : Int) := of_decide_eq_true (by first | (with_reducible assumption) | assumption); obtain ⟨ad925, e925, hx925_0⟩ := Kd.at_int (Kd.R_reads' HO924.out).2.2 a2 p925 q925; cases e925; replace p925 := eq_true p925; replace q925 := eq_true q925))
    go_ret
    exact ⟨ZqR, ZB⟩
   ·rw [if_neg c9] at H
    exact absurd H (by simp)
  ·rw [if_neg c8] at H
   exact absurd H (by simp)

/-! ### spec_l09Paths: function 142 -/
mutual
def spec_l09Paths.j0 : Nat → Int → Int → Int → Int → Bool → Option (List ByteArray)
 | 0, _, _, _, _, _ => none
 | k + 1, x0, x1, x2, x3, x35 => if x35 = true then (some (([] : List ByteArray))) else (if x0 = 0 then (some (([(⟨#[]⟩ : ByteArray)] : List ByteArray))) else (spec_l09Paths.l0 k x0 x1 x2 x3 (([] : List ByteArray)) (-1)))
def spec_l09Paths.l0 : Nat → Int → Int → Int → Int → List ByteArray → Int → Option (List ByteArray)
 | 0, _, _, _, _, _, _ => none
 | k + 1, x0, x1, x2, x3, x9, x10 => if x10 ≤ 1 then (if (wrap64 (x1 + x10)) < 0 then (spec_l09Paths.l0 k x0 x1 x2 x3 x9 (wrap64 (x10 + 1))) else ((some (([(⟨#[68]⟩ : ByteArray), (⟨#[76]⟩ : ByteArray), (⟨#[85]⟩ : ByteArray)] : List ByteArray) : List ByteArray)).bind fun y935 => (if 0 ≤ (wrap64 (x10 + 1)) then (if (wrap64 (x10 + 1)) < (y935.length : Int) then ((spec_l09Paths.f k (wrap64 (x0 - 1)) (wrap64 (x1 + x10)) x2 x3).bind fun t939 => (spec_l09Paths.l1 k x0 x1 x2 x3 x9 x10 (rdOf ByteArray.empty y935 (wrap64 (x10 + 1))) t939 0)) else (none)) else (none)))) else (some x9)
def spec_l09Paths.l1 : Nat → Int → Int → Int → Int → List ByteArray → Int → ByteArray → List ByteArray → Int → Option (List ByteArray)
 | 0, _, _, _, _, _, _, _, _, _ => none
 | k + 1, x0, x1, x2, x3, x9, x10, x11, x12, x13 => if x13 < (x12.length : Int) then (if 0 ≤ x13 then (if x11.size + (rdOf ByteArray.empty x12 x13).size ≤ 9223372036854775807 then (if x9.length < 8796093022208 then (spec_l09Paths.l1 k x0 x1 x2 x3 (x9 ++ [x11 ++ (rdOf ByteArray.empty x12 x13)]) x10 x11 x12 (wrap64 (x13 + 1))) else (none)) else (none)) else (none)) else (spec_l09Paths.l0 k x0 x1 x2 x3 x9 (wrap64 (x10 + 1)))
def spec_l09Paths.f : Nat → Int → Int → Int → Int → Option (List ByteArray)
 | 0, _, _, _, _ => none
 | k + 1, a0, a1, a2, a3 => if a1 > a3 then (spec_l09Paths.j0 k a0 a1 a2 a3 true) else (if a2 > a3 then (spec_l09Paths.j0 k a0 a1 a2 a3 true) else (if (wrap64 (a1 - a2)) > a0 then (spec_l09Paths.j0 k a0 a1 a2 a3 true) else (spec_l09Paths.j0 k a0 a1 a2 a3 (decide ((wrap64 (a2 - a1)) > a0)))))
end
theorem spec_l09Paths.mono_l : ∀ k, (∀ y0 y1 y2 y3, LeO (spec_l09Paths.f k y0 y1 y2 y3) (spec_l09Paths.f (k + 1) y0 y1 y2 y3)) ∧ (∀ y0 y1 y2 y3 y4, LeO (spec_l09Paths.j0 k y0 y1 y2 y3 y4) (spec_l09Paths.j0 (k + 1) y0 y1 y2 y3 y4)) ∧ (∀ y0 y1 y2 y3 y4 y5, LeO (spec_l09Paths.l0 k y0 y1 y2 y3 y4 y5) (spec_l09Paths.l0 (k + 1) y0 y1 y2 y3 y4 y5)) ∧ (∀ y0 y1 y2 y3 y4 y5 y6 y7 y8, LeO (spec_l09Paths.l1 k y0 y1 y2 y3 y4 y5 y6 y7 y8) (spec_l09Paths.l1 (k + 1) y0 y1 y2 y3 y4 y5 y6 y7 y8))
 | 0 => ⟨fun _ _ _ _ r h => by simp [spec_l09Paths.f] at h, fun _ _ _ _ _ r h => by simp [spec_l09Paths.j0] at h, fun _ _ _ _ _ _ r h => by simp [spec_l09Paths.l0] at h, fun _ _ _ _ _ _ _ _ _ r h => by simp [spec_l09Paths.l1] at h⟩
 | k + 1 => by
  obtain ⟨ih0, ih1, ih2, ih3⟩ := spec_l09Paths.mono_l k
  refine ⟨?_, ?_, ?_, ?_⟩
  ·intro y0 y1 y2 y3
   unfold spec_l09Paths.f
   repeat' first
   | (with_reducible exact ih0 _ _ _ _)
   | (with_reducible exact ih1 _ _ _ _ _)
   | (with_reducible exact ih2 _ _ _ _ _ _)
   | (with_reducible exact ih3 _ _ _ _ _ _ _ _ _)
   | (with_reducible exact LeO.refl _)
   | (with_reducible exact LeO.none _)
   | (with_reducible refine LeO.ite ?_ ?_)
   | (with_reducible refine LeO.bind ?_ (fun _ => ?_))
   | exact ih0 _ _ _ _
   | exact ih1 _ _ _ _ _
   | exact ih2 _ _ _ _ _ _
   | exact ih3 _ _ _ _ _ _ _ _ _
   | exact LeO.none _
   | refine LeO.ite ?_ ?_
   | refine LeO.bind ?_ (fun _ => ?_)
  ·intro y0 y1 y2 y3 y4
   unfold spec_l09Paths.j0
   repeat' first
   | (with_reducible exact ih0 _ _ _ _)
   | (with_reducible exact ih1 _ _ _ _ _)
   | (with_reducible exact ih2 _ _ _ _ _ _)
   | (with_reducible exact ih3 _ _ _ _ _ _ _ _ _)
   | (with_reducible exact LeO.refl _)
   | (with_reducible exact LeO.none _)
   | (with_reducible refine LeO.ite ?_ ?_)
   | (with_reducible refine LeO.bind ?_ (fun _ => ?_))
   | exact ih0 _ _ _ _
   | exact ih1 _ _ _ _ _
   | exact ih2 _ _ _ _ _ _
   | exact ih3 _ _ _ _ _ _ _ _ _
   | exact LeO.none _
   | refine LeO.ite ?_ ?_
   | refine LeO.bind ?_ (fun _ => ?_)
  ·intro y0 y1 y2 y3 y4 y5
   unfold spec_l09Paths.l0
   repeat' first
   | (with_reducible exact ih0 _ _ _ _)
   | (with_reducible exact ih1 _ _ _ _ _)
   | (with_reducible exact ih2 _ _ _ _ _ _)
   | (with_reducible exact ih3 _ _ _ _ _ _ _ _ _)
   | (with_reducible exact LeO.refl _)
   | (with_reducible exact LeO.none _)
   | (with_reducible refine LeO.ite ?_ ?_)
   | (with_reducible refine LeO.bind ?_ (fun _ => ?_))
   | exact ih0 _ _ _ _
   | exact ih1 _ _ _ _ _
   | exact ih2 _ _ _ _ _ _
   | exact ih3 _ _ _ _ _ _ _ _ _
   | exact LeO.none _
   | refine LeO.ite ?_ ?_
   | refine LeO.bind ?_ (fun _ => ?_)
  ·intro y0 y1 y2 y3 y4 y5 y6 y7 y8
   unfold spec_l09Paths.l1
   repeat' first
   | (with_reducible exact ih0 _ _ _ _)
   | (with_reducible exact ih1 _ _ _ _ _)
   | (with_reducible exact ih2 _ _ _ _ _ _)
   | (with_reducible exact ih3 _ _ _ _ _ _ _ _ _)
   | (with_reducible exact LeO.refl _)
   | (with_reducible exact LeO.none _)
   | (with_reducible refine LeO.ite ?_ ?_)
   | (with_reducible refine LeO.bind ?_ (fun _ => ?_))
   | exact ih0 _ _ _ _
   | exact ih1 _ _ _ _ _
   | exact ih2 _ _ _ _ _ _
   | exact ih3 _ _ _ _ _ _ _ _ _
   | exact LeO.none _
   | refine LeO.ite ?_ ?_
   | refine LeO.bind ?_ (fun _ => ?_)
theorem spec_l09Paths.mono : ∀ a0 a1 a2 a3 k, LeO (spec_l09Paths.f k a0 a1 a2 a3) (spec_l09Paths.f (k + 1) a0 a1 a2 a3) := by
 intro a0 a1 a2 a3 k
 obtain ⟨ih0, ih1, ih2, ih3⟩ := spec_l09Paths.mono_l k
 exact ih0 a0 a1 a2 a3
set_option maxHeartbeats 8000000 in
set_option maxRecDepth 100000 in
theorem spec_l09Paths.calls (k : Nat) : ∀ (a0 : Int) (a1 : Int) (a2 : Int) (a3 : Int) (r : List ByteArray) (w : World) (h : spec_l09Paths.f k a0 a1 a2 a3 = some r),
  Calls Try.prog 142 #[.int .i64 a0, .int .i64 a1, .int .i64 a2, .int .i64 a3] w fun e w' => ∃ v0_ : Value, e = .returned (v0_) ∧ Kd.R Kd.string 9 w' w.heap.size (fun _ => True) v0_ r ∧ Below w.heap.size w w' := by
 induction k using Nat.strongRecOn with
 | _ k ih =>
 intro a0 a1 a2 a3 r w h
 cases k with
 | zero => exact absurd h (by simp [spec_l09Paths.f])
 | succ k =>
 simp only [spec_l09Paths.f] at h
 have HB := Aside0.mk (Below.refl w.heap.size w)
 have H : (if a1 > a3 then (spec_l09Paths.j0 k a0 a1 a2 a3 true) else (if a2 > a3 then (spec_l09Paths.j0 k a0 a1 a2 a3 true) else (if (wrap64 (a1 - a2)) > a0 then (spec_l09Paths.j0 k a0 a1 a2 a3 true) else (spec_l09Paths.j0 k a0 a1 a2 a3 (decide ((wrap64 (a2 - a1)) > a0)))))) = some r := h
 clear h
 have HC5 := Aside0.mk H
 clear H
 go_enter Try.func142, Try.ntmps142
 go_upto_region 1 with (fail)
 go_cut [35] (fun v35 wc => ∃ (kq : Nat) (x35_4 : Bool), v35 = .bool x35_4 ∧ Aside0 (spec_l09Paths.j0 kq a0 a1 a2 a3 x35_4 = some r) ∧ Aside0 (kq ≤ k) ∧ Aside0 (Below w.heap.size w wc))
 case first =>
  have H := HC5.out
  clear HC5
  by_cases c6 : a1 > a3
  ·rw [if_pos c6] at H
   have c6b0 : decide (a3 < a1) = true := decide_eq_true c6
   clear c6
   (first | rw [c6b0] | (simp only [i64_w, i32_w]; rw [c6b0]) | skip)
   have H' := Aside0.mk H
   clear H
   go_wp2
   go_meet
   case rel => exact ⟨_, (true), (ZqS), H', ⟨by first | omega | exact Nat.le_refl _⟩, ⟨ZB⟩⟩
  ·rw [if_neg c6] at H
   have c6b0 : decide (a3 < a1) = false := decide_eq_false c6
   clear c6
   (first | rw [c6b0] | (simp only [i64_w, i32_w]; rw [c6b0]) | skip)
   by_cases c7 : a2 > a3
   ·rw [if_pos c7] at H
    have c7b0 : decide (a3 < a2) = true := decide_eq_true c7
    clear c7
    have H' := Aside0.mk H
    clear H
    go_wp2
    go_meet
    case rel => exact ⟨_, (true), (ZqS), H', ⟨by first | omega | exact Nat.le_refl _⟩, ⟨ZB⟩⟩
   ·rw [if_neg c7] at H
    have c7b0 : decide (a3 < a2) = false := decide_eq_false c7
    clear c7
    by_cases c8 : (wrap64 (a1 - a2)) > a0
    ·rw [if_pos c8] at H
     have c8b0 : decide (a0 < (wrap64 (a1 - a2))) = true := decide_eq_true c8
     clear c8
     have H' := Aside0.mk H
     clear H
     go_wp2
     go_meet
     case rel => exact ⟨_, (true), (ZqS), H', ⟨by first | omega | exact Nat.le_refl _⟩, ⟨ZB⟩⟩
    ·rw [if_neg c8] at H
     have c8b0 : decide (a0 < (wrap64 (a1 - a2))) = false := decide_eq_false c8
     clear c8
     have H' := Aside0.mk H
     clear H
     go_wp2
     go_meet
     case rel => exact ⟨_, (decide ((wrap64 (a2 - a1)) > a0)), (ZqS), H', ⟨by first | omega | exact Nat.le_refl _⟩, ⟨ZB⟩⟩
 case rest =>
  clear HC5
  try clear c1
  try clear p2
  try clear c6
  try clear c6b0
  try clear p6
  try clear c7
  try clear c7b0
  try clear c8
  try clear c8b0
  obtain ⟨kq, x35_4, rfl, HA, HJ4, HB⟩ := hcut
  cases kq with
  | zero => exact absurd HA.out (by simp [spec_l09Paths.j0])
  | succ kj4 =>
   have H := HA.out
   clear HA
   simp only [spec_l09Paths.j0] at H
   by_cases c9 : x35_4 = true
   ·subst c9
    rw [if_pos rfl] at H
    obtain ⟨y926, hy926⟩ : ∃ y_ : List ByteArray, y_ = (([] : List ByteArray)) := ⟨_, rfl⟩
    replace H : (some y926) = some r := by have hq_ := hy926; exact ZqH
    have Ny926 := Aside0.mk hy926
    clear hy926
    obtain rfl := Option.some.inj H
    go_wp2_with (first | ((with_reducible refine gate_dst (N := 36) rfl ?_); refine Kd.R_lit Kd.string _ 9 ?hg (N := 36) ?hd (xs := ([] : List ByteArray)) (inner := []) (ok := fun _ => True) (okp := fun _ => True) ?hr ?hp (fun _ hk => hk) trivial (Below.refl _ _) (Nat.le_refl _) (by simp) ?_; (case hd => rfl); (case hg => rfl); (case hr => exact ZqT); (case hp => exact (Reps.none _ _)); intro v927 w10 ho11 hb hg_ hnew_; clear hg_ hnew_; (first | rw [← Ny926.out] at ho11 | (simp only [Int.reduceToNat] at ho11; rw [← Ny926.out] at ho11)); have n0_ := Aside0.mk (Kd.R_lower ho11 (below_size ZB)); have n1_ := Aside0.mk (below_step ZB hb); clear HB; have HO928 := n0_; have HB := n1_; clear n0_ n1_; clear hb ho11))
    go_ret
    exact ⟨_, ZqR, by refine ZQ ?_; exact HO928.out, ZB⟩
   ·replace c9 := Bool.eq_false_iff.mpr c9
    subst c9
    rw [if_neg (show ¬ (false = true) by decide)] at H
    by_cases c12 : a0 = 0
    ·rw [if_pos c12] at H
     have c12b0 : (a0 == 0) = true := beq_iff_eq.mpr c12
     have c12b1 : (a0 != 0) = false := bne_eq_false_iff_eq.mpr c12
     clear c12
     obtain ⟨y929, hy929⟩ : ∃ y_ : List ByteArray, y_ = (([(⟨#[]⟩ : ByteArray)] : List ByteArray)) := ⟨_, rfl⟩
     replace H : (some y929) = some r := by have hq_ := hy929; exact ZqH
     have Ny929 := Aside0.mk hy929
     clear hy929
     obtain rfl := Option.some.inj H
     go_wp2_with (first | ((with_reducible refine gate_dst (N := 39) rfl ?_); refine Kd.R_lit Kd.string _ 9 ?hg (N := 39) ?hd (xs := ([(⟨#[]⟩ : ByteArray)] : List ByteArray)) (inner := [.string (⟨#[]⟩ : ByteArray)]) (ok := fun _ => True) (okp := fun _ => True) ?hr ?hp (fun _ hk => hk) trivial (Below.refl _ _) (Nat.le_refl _) (by simp) ?_; (case hd => rfl); (case hg => rfl); (case hr => exact ZqT); (case hp => exact (Reps.one (show Kd.M Kd.string _ _ _ (⟨#[]⟩ : ByteArray) [.string (⟨#[]⟩ : ByteArray)] from rfl) (Reps.none _ _))); intro v930 w13 ho14 hb hg_ hnew_; clear hg_ hnew_; (first | rw [← Ny929.out] at ho14 | (simp only [Int.reduceToNat] at ho14; rw [← Ny929.out] at ho14)); have n0_ := Aside0.mk (Kd.R_lower ho14 (below_size ZB)); have n1_ := Aside0.mk (below_step ZB hb); clear HB; have HO931 := n0_; have HB := n1_; clear n0_ n1_; clear hb ho14))
     go_ret
     exact ⟨_, ZqR, by refine ZQ ?_; exact HO931.out, ZB⟩
    ·rw [if_neg c12] at H
     have c12b0 : (a0 == 0) = false := beq_eq_false_iff_ne.mpr c12
     have c12b1 : (a0 != 0) = true := bne_iff_ne.mpr c12
     obtain ⟨y932, hy932⟩ : ∃ y_ : List ByteArray, y_ = (([] : List ByteArray)) := ⟨_, rfl⟩
     replace H : (spec_l09Paths.l0 kj4 a0 a1 a2 a3 y932 (-1)) = some r := by have hq_ := hy932; exact ZqH
     have Ny932 := Aside0.mk hy932
     clear hy932
     have H' := Aside0.mk H
     clear H
     go_wp2_with (first | ((with_reducible refine gate_dst (N := 40) rfl ?_); refine Kd.R_lit Kd.string _ 9 ?hg (N := 40) ?hd (xs := ([] : List ByteArray)) (inner := []) (ok := fun _ => True) (okp := fun _ => True) ?hr ?hp (fun _ hk => hk) trivial (Below.refl _ _) (Nat.le_refl _) (by simp) ?_; (case hd => rfl); (case hg => rfl); (case hr => exact ZqT); (case hp => exact (Reps.none _ _)); intro v933 w15 ho16 hb hg_ hnew_; clear hg_ hnew_; (first | rw [← Ny932.out] at ho16 | (simp only [Int.reduceToNat] at ho16; rw [← Ny932.out] at ho16)); have n0_ := Aside0.mk (Kd.R_lower ho16 (below_size ZB)); have n1_ := Aside0.mk (below_step ZB hb); clear HB; have HO934 := n0_; have HB := n1_; clear n0_ n1_; clear hb ho16))
     go_loopg [9, 10] kj4 (fun kq v9 v10 w' => ∃ (x9_2 : List ByteArray) (x10_2 : Int), v10 = .int .i64 x10_2 ∧ Aside0 (spec_l09Paths.l0 kq a0 a1 a2 a3 x9_2 x10_2 = some r) ∧ Aside0 (kq ≤ kj4) ∧ Aside0 (Kd.R Kd.string 9 w' w.heap.size (fun _ => True) v9 x9_2) ∧ Aside0 (Below w.heap.size w w'))
     case atStart => exact ⟨(y932), ((-1)), (ZqS), H', ⟨Nat.le_refl _⟩, ⟨ZR HO934⟩, ⟨ZB⟩⟩
     case round =>
      clear H'
      try clear c1
      try clear p2
      try clear c6
      try clear c6b0
      try clear p6
      try clear c7
      try clear c7b0
      try clear c8
      try clear c8b0
      try clear c9
      try clear c12
      try clear c12b0
      try clear c12b1
      try clear c14
      try clear p2
      try clear p6
      obtain ⟨x9_2, x10_2, rfl, HA, HK2, HO_9, HB⟩ := hrel
      cases gk with
      | zero => exact absurd HA.out (by simp [spec_l09Paths.l0])
      | succ k2 =>
       have H := HA.out
       clear HA
       simp only [spec_l09Paths.l0] at H
       by_cases c17 : x10_2 ≤ 1
       ·rw [if_pos c17] at H
        have c17b0 : decide (x10_2 ≤ 1) = true := decide_eq_true c17
        clear c17
        by_cases c18 : (wrap64 (a1 + x10_2)) < 0
        ·rw [if_pos c18] at H
         have c18b0 : decide ((wrap64 (a1 + x10_2)) < 0) = true := decide_eq_true c18
         clear c18
         have H' := Aside0.mk H
         clear H
         go_wp2
         go_roundg k2
         case measure => have := HJ4.out; have := HK2.out; omega
         case rel => exact ⟨(x9_2), (wrap64 (x10_2 + 1)), (ZqS), H', ⟨by have := HJ4.out; have := HK2.out; omega⟩, ⟨ZR HO_9⟩, ⟨ZB⟩⟩
        ·rw [if_neg c18] at H
         have c18b0 : decide ((wrap64 (a1 + x10_2)) < 0) = false := decide_eq_false c18
         clear c18
         obtain ⟨y935, hy935⟩ : ∃ y_ : List ByteArray, y_ = (([(⟨#[68]⟩ : ByteArray), (⟨#[76]⟩ : ByteArray), (⟨#[85]⟩ : ByteArray)] : List ByteArray)) := ⟨_, rfl⟩
         replace H : (if 0 ≤ (wrap64 (x10_2 + 1)) then (if (wrap64 (x10_2 + 1)) < (y935.length : Int) then ((spec_l09Paths.f k2 (wrap64 (a0 - 1)) (wrap64 (a1 + x10_2)) a2 a3).bind fun t939 => (spec_l09Paths.l1 k2 a0 a1 a2 a3 x9_2 x10_2 (rdOf ByteArray.empty y935 (wrap64 (x10_2 + 1))) t939 0)) else (none)) else (none)) = some r := by have hq_ := hy935; exact ZqH
         have Ny935 := Aside0.mk hy935
         clear hy935
         obtain ⟨ji19, hji19⟩ : ∃ j_ : Int, (wrap64 (x10_2 + 1)) = j_ := ⟨_, rfl⟩
         replace H : (if 0 ≤ (ji19) then (if (ji19) < (y935.length : Int) then ((spec_l09Paths.f k2 (wrap64 (a0 - 1)) (wrap64 (a1 + x10_2)) a2 a3).bind fun t939 => (spec_l09Paths.l1 k2 a0 a1 a2 a3 x9_2 x10_2 (rdOf ByteArray.empty y935 (ji19)) t939 0)) else (none)) else (none)) = some r := by first | (rw [hji19] at H; exact H) | (simp only [hji19] at H ⊢; exact H)
         have hji19w : (IntKind.i64.wrap (x10_2 + 1)) = ji19 := (i64_w _).trans hji19
         by_cases c20 : 0 ≤ (ji19)
         ·rw [if_pos c20] at H
          have c20b0 : decide (0 ≤ (ji19)) = true := decide_eq_true c20
          clear c20
          by_cases c21 : (ji19) < (y935.length : Int)
          ·rw [if_pos c21] at H
           have c21b0 : decide ((ji19) < (y935.length : Int)) = true := decide_eq_true c21
           clear c21
           replace H := Option.bind_eq_some_iff.mp H
           obtain ⟨t939, A220, H⟩ := H
           try dsimp only at H
           have A22 := Aside0.mk A220
           clear A220
           have H' := Aside0.mk H
           clear H
           go_wp2_with (first | ((with_reducible refine gate_dst (N := 49) rfl ?_); refine Kd.R_lit Kd.string _ 9 ?hg (N := 49) ?hd (xs := ([(⟨#[68]⟩ : ByteArray), (⟨#[76]⟩ : ByteArray), (⟨#[85]⟩ : ByteArray)] : List ByteArray)) (inner := [.string (⟨#[68]⟩ : ByteArray), .string (⟨#[76]⟩ : ByteArray), .string (⟨#[85]⟩ : ByteArray)]) (ok := fun _ => True) (okp := fun _ => True) ?hr ?hp (fun _ hk => hk) trivial (Below.refl _ _) (Nat.le_refl _) (by simp) ?_; (case hd => rfl); (case hg => rfl); (case hr => exact ZqT); (case hp => exact (Reps.one (show Kd.M Kd.string _ _ _ (⟨#[68]⟩ : ByteArray) [.string (⟨#[68]⟩ : ByteArray)] from rfl) (Reps.one (show Kd.M Kd.string _ _ _ (⟨#[76]⟩ : ByteArray) [.string (⟨#[76]⟩ : ByteArray)] from rfl) (Reps.one (show Kd.M Kd.string _ _ _ (⟨#[85]⟩ : ByteArray) [.string (⟨#[85]⟩ : ByteArray)] from rfl) (Reps.none _ _))))); intro v936 w23 ho24 hb hg_ hnew_; clear hg_ hnew_; (first | rw [← Ny935.out] at ho24 | (simp only [Int.reduceToNat] at ho24; rw [← Ny935.out] at ho24)); have n0_ := Aside0.mk (Kd.R_elder' (ZR HO_9) (Kd.R_base ho24) hb); have n1_ := Aside0.mk (Kd.R_lower (Kd.R_new' ho24 (Kd.R_lt (ZR HO_9))) (below_size ZB)); have n2_ := Aside0.mk (below_step ZB hb); clear HO_9 HB; have HO_9 := n0_; have HO937 := n1_; have HB := n2_; clear n0_ n1_ n2_; clear hb ho24; obtain ⟨Ao25, co25, eo25⟩ := Kd.R_slice HO937.out; subst eo25; have p938 : 0 ≤ ((ji19) : Int) := of_decide_eq_true (by first | (with_reducible assumption) | assumption); have q938 : (ji19) < (y935.length : Int) := of_decide_eq_true (by first | (with_reducible assumption) | assumption); obtain ⟨ad938, e938, hx938_0⟩ := Kd.at_string (Kd.R_reads' HO937.out).2.2 (ji19) p938 q938; cases e938; replace p938 := eq_true p938; replace q938 := eq_true q938) | ((with_reducible refine gate_callee (f := 142) rfl ?_); refine goesL_ (some 61) rfl rfl Try.func142 (by kernel_rfl) rfl #[.int .i64 (wrap64 (a0 - 1)), .int .i64 (wrap64 (a1 + x10_2)), .int .i64 a2, .int .i64 a3] rfl ZA ?_; (with_reducible refine (ih k2 (by have := HJ4.out; have := HK2.out; omega) (wrap64 (a0 - 1)) (wrap64 (a1 + x10_2)) a2 a3 t939 _ A22.out).mono ?_); rintro e w26 ⟨v940, rfl, ho0, hb⟩; refine ⟨_, rfl, ?_⟩; have n0_ := Aside0.mk (Kd.R_elder' (ZR HO_9) (Kd.R_base ho0) hb); have n1_ := Aside0.mk (Kd.R_elder' (ZR HO937) (Kd.R_base ho0) hb); have n2_ := Aside0.mk (Kd.R_lower (Kd.R_new' (Kd.R_new' ho0 (Kd.R_lt (ZR HO_9))) (Kd.R_lt (ZR HO937))) (below_size ZB)); have n3_ := Aside0.mk (below_step ZB hb); clear HO_9 HO937 HB; have HO_9 := n0_; have HO937 := n1_; have HO941 := n2_; have HB := n3_; clear n0_ n1_ n2_ n3_; (try clear hb); (try clear ho0)))
           go_loopg [9, 13] k2 (fun kq v9 v13 w' => ∃ (x9_3 : List ByteArray) (x13_3 : Int), v13 = .int .i64 x13_3 ∧ Aside0 (spec_l09Paths.l1 kq a0 a1 a2 a3 x9_3 x10_2 (rdOf ByteArray.empty y935 (ji19)) t939 x13_3 = some r) ∧ Aside0 (kq ≤ k2) ∧ Aside0 (Kd.R Kd.string 9 w' w.heap.size (fun k_ => some k_ ≠ (v940 : Value).ownBlock) v9 x9_3) ∧ Aside0 (Kd.R Kd.string 9 w' w.heap.size (fun k_ => some k_ ≠ (v9 : Value).ownBlock) v940 t939) ∧ Aside0 (Below w.heap.size w w'))
           case atStart => exact ⟨(x9_2), (0), (ZqS), H', ⟨Nat.le_refl _⟩, ⟨by refine ZQ ?_; exact Kd.R_mono HO_9.out (fun _ hk => hk.2)⟩, ⟨by refine ZQ ?_; exact Kd.R_mono HO941.out (fun _ hk => hk.1.2)⟩, ⟨ZB⟩⟩
           case round =>
            clear H'
            try clear c1
            try clear c2
            try clear p2
            try clear c6
            try clear c6b0
            try clear p6
            try clear c7
            try clear c7b0
            try clear c8
            try clear c8b0
            try clear c9
            try clear p9
            try clear q9
            try clear hx9
            try clear c12
            try clear c12b0
            try clear c12b1
            try clear c14
            try clear c17
            try clear c17b0
            try clear c18
            try clear c18b0
            try clear c20
            try clear c20b0
            try clear c21
            try clear c21b0
            try clear hx938_0
            try clear p2
            try clear p6
            try clear p938
            try clear q938
            obtain ⟨x9_3, x13_3, rfl, HA, HK3, HO_9, HO_12, HB⟩ := hrel
            cases gk with
            | zero => exact absurd HA.out (by simp [spec_l09Paths.l1])
            | succ k3 =>
             have H := HA.out
             clear HA
             simp only [spec_l09Paths.l1] at H
             by_cases c27 : x13_3 < (t939.length : Int)
             ·rw [if_pos c27] at H
              have c27b0 : decide (x13_3 < (t939.length : Int)) = true := decide_eq_true c27
              clear c27
              by_cases c28 : 0 ≤ x13_3
              ·rw [if_pos c28] at H
               have c28b0 : decide (0 ≤ x13_3) = true := decide_eq_true c28
               clear c28
               by_cases c29 : (rdOf ByteArray.empty y935 (ji19)).size + (rdOf ByteArray.empty t939 x13_3).size ≤ 9223372036854775807
               ·rw [if_pos c29] at H
                have c29b0 := eq_true c29
                have c29b1 : decide ((rdOf ByteArray.empty y935 (ji19)).size + (rdOf ByteArray.empty t939 x13_3).size ≤ 9223372036854775807) = true := decide_eq_true c29
                try have c29b2 : (9223372036854775807 < (rdOf ByteArray.empty y935 (ji19)).size + (rdOf ByteArray.empty t939 x13_3).size) = False := eq_false (Nat.not_lt.2 c29)
                by_cases c30 : x9_3.length < 8796093022208
                ·rw [if_pos c30] at H
                 have LMc30 := Aside0.mk c30
                 clear c30
                 obtain ⟨y943, hy943⟩ : ∃ y_ : List ByteArray, y_ = (x9_3 ++ [(rdOf ByteArray.empty y935 (ji19)) ++ (rdOf ByteArray.empty t939 x13_3)]) := ⟨_, rfl⟩
                 replace H : (spec_l09Paths.l1 k3 a0 a1 a2 a3 y943 x10_2 (rdOf ByteArray.empty y935 (ji19)) t939 (wrap64 (x13_3 + 1))) = some r := by have hq_ := hy943; exact ZqH
                 have Ny943 := Aside0.mk hy943
                 clear hy943
                 have H' := Aside0.mk H
                 clear H
                 obtain ⟨Ao31, co31, eo31⟩ := Kd.R_slice HO_12.out
                 subst eo31
                 have p942 : 0 ≤ (x13_3 : Int) := of_decide_eq_true (by first | (with_reducible assumption) | assumption)
                 have q942 : x13_3 < (t939.length : Int) := of_decide_eq_true (by first | (with_reducible assumption) | assumption)
                 obtain ⟨ad942, e942, hx942_0⟩ := Kd.at_string (Kd.R_reads' HO_12.out).2.2 x13_3 p942 q942
                 cases e942
                 replace p942 := eq_true p942
                 replace q942 := eq_true q942
                 go_wp2_with (first | ((with_reducible refine gate_builtin (b := .append) (xs := #[.tmp 68, .tmp 75]) rfl ?_); at_builtin; refine Kd.R_append Kd.string (w0 := w) w.heap.size rfl (.tmp 68) (.tmp 75) 45 9 (.string ⟨#[]⟩) 16 rfl Try.underlying45 info9 rfl (by decide) (by omega) u9 x9_3 ((rdOf ByteArray.empty y935 (ji19)) ++ (rdOf ByteArray.empty t939 x13_3)) [.string ((rdOf ByteArray.empty y935 (ji19)) ++ (rdOf ByteArray.empty t939 x13_3))] (fun k_ => some k_ ≠ (.slice (some ad942) t939.length co31 : Value).ownBlock) (fun _ => False) rfl rfl ?aP (fun _ hk => hk.elim) ?aF ?aO ?aB ?aS ?aL ?_; (case aP => exact rfl); (case aB => exact ZB); (case aF => exact (fun k_ hk => Kd.fresh' (Kd.R_lt (ZR HO_12)) k_ hk)); (case aO => exact (ZR HO_9)); (case aS => exact (below_size ZB)); (case aL => have := LMc30.out; omega); intro v944 w32 ho hb hg hat; rw [← Ny943.out] at ho; have n0_ := Aside0.mk (Kd.R_after (ok := (fun _ => True)) (by refine ZQ ?_; exact Kd.R_mono HO_12.out (fun _ hk => (And.intro (trivial) (hk)))) hg hat); have n1_ := Aside0.mk (hb); have n2_ := Aside0.mk (ho); clear HO_12 HB HO_9; have HO_12 := n0_; have HB := n1_; have HO945 := n2_; clear n0_ n1_ n2_; clear ho hb hg hat))
                 go_roundg k3
                 case measure => have := HJ4.out; have := HK2.out; have := HK3.out; omega
                 case rel => exact ⟨(y943), (wrap64 (x13_3 + 1)), (ZqS), H', ⟨by have := HJ4.out; have := HK2.out; have := HK3.out; omega⟩, ⟨ZR HO945⟩, ⟨by refine ZQ ?_; exact Kd.R_mono HO_12.out (fun _ hk => hk.2)⟩, ⟨ZB⟩⟩
                ·rw [if_neg c30] at H
                 exact absurd H (by simp)
               ·rw [if_neg c29] at H
                exact absurd H (by simp)
              ·rw [if_neg c28] at H
               exact absurd H (by simp)
             ·rw [if_neg c27] at H
              have c27b0 : decide (x13_3 < (t939.length : Int)) = false := decide_eq_false c27
              clear c27
              have H' := Aside0.mk H
              clear H
              obtain ⟨Ao33, co33, eo33⟩ := Kd.R_slice HO_12.out
              subst eo33
              go_wp2
              go_roundg k3
              case measure => have := HJ4.out; have := HK2.out; have := HK3.out; omega
              case rel => exact ⟨(x9_3), (wrap64 (x10_2 + 1)), (ZqS), H', ⟨by have := HJ4.out; have := HK2.out; have := HK3.out; omega⟩, ⟨by refine ZQ ?_; exact Kd.R_mono HO_9.out (fun _ hk => trivial)⟩, ⟨ZB⟩⟩
          ·rw [if_neg c21] at H
           exact absurd H (by simp)
         ·rw [if_neg c20] at H
          exact absurd H (by simp)
       ·rw [if_neg c17] at H
        have c17b0 : decide (x10_2 ≤ 1) = false := decide_eq_false c17
        clear c17
        obtain rfl := Option.some.inj H
        go_wp2
        go_ret
        exact ⟨_, ZqR, by refine ZQ ?_; exact HO_9.out, ZB⟩

/-! ### spec_PathsOf: function 27 -/
def spec_PathsOf.f (k : Nat) (a0 : Int) (a1 : Int) (a2 : Int) (a3 : Int) : Option (List ByteArray × Int) := (spec_l09Given.f a0 a1 a2 a3).bind fun t946 => (if t946 = true then ((spec_l09Count.f k a0 a1 a2 a3 false).bind fun t947 => (if t947 > 400 then (some (([] : List ByteArray), 3)) else ((spec_l09Paths.f k a0 a1 a2 a3).bind fun t948 => (some (t948, 0))))) else (some (([] : List ByteArray), 2)))
theorem spec_PathsOf.mono : ∀ a0 a1 a2 a3 k, LeO (spec_PathsOf.f k a0 a1 a2 a3) (spec_PathsOf.f (k + 1) a0 a1 a2 a3) := by
 intro a0 a1 a2 a3 k
 unfold spec_PathsOf.f
 repeat' first
   | (with_reducible exact spec_l09Count.mono _ _ _ _ _ _)
   | (with_reducible exact spec_l09Paths.mono _ _ _ _ _)
   | (with_reducible exact LeO.refl _)
   | (with_reducible exact LeO.none _)
   | (with_reducible refine LeO.ite ?_ ?_)
   | (with_reducible refine LeO.bind ?_ (fun _ => ?_))
   | exact spec_l09Count.mono _ _ _ _ _ _
   | exact spec_l09Paths.mono _ _ _ _ _
   | exact LeO.none _
   | refine LeO.ite ?_ ?_
   | refine LeO.bind ?_ (fun _ => ?_)
set_option maxHeartbeats 8000000 in
set_option maxRecDepth 100000 in
theorem spec_PathsOf.calls (k : Nat) (a0 : Int) (a1 : Int) (a2 : Int) (a3 : Int) (r1 : List ByteArray) (r2 : Int) (w : World) (h : spec_PathsOf.f k a0 a1 a2 a3 = some (r1, r2)) :
  Calls Try.prog 27 #[.int .i64 a0, .int .i64 a1, .int .i64 a2, .int .i64 a3] w fun e w' => ∃ v0_ : Value, e = .returned (.tuple #[v0_, .int .i64 r2]) ∧ Kd.R Kd.string 9 w' w.heap.size (fun _ => True) v0_ r1 ∧ Below w.heap.size w w' := by
 have HB := Aside0.mk (Below.refl w.heap.size w)
 have H : ((spec_l09Given.f a0 a1 a2 a3).bind fun t946 => (if t946 = true then ((spec_l09Count.f k a0 a1 a2 a3 false).bind fun t947 => (if t947 > 400 then (some (([] : List ByteArray), 3)) else ((spec_l09Paths.f k a0 a1 a2 a3).bind fun t948 => (some (t948, 0))))) else (some (([] : List ByteArray), 2)))) = some (r1, r2) := h
 clear h
 replace H := Option.bind_eq_some_iff.mp H
 obtain ⟨t946, A50, H⟩ := H
 try dsimp only at H
 have A5 := Aside0.mk A50
 clear A50
 by_cases c6 : t946 = true
 ·subst c6
  rw [if_pos rfl] at H
  replace H := Option.bind_eq_some_iff.mp H
  obtain ⟨t947, A70, H⟩ := H
  try dsimp only at H
  have A7 := Aside0.mk A70
  clear A70
  by_cases c8 : t947 > 400
  ·rw [if_pos c8] at H
   have c8b0 : decide (400 < t947) = true := decide_eq_true c8
   clear c8
   simp only [Option.some.injEq, Prod.mk.injEq] at H
   obtain ⟨rfl, rfl⟩ := H
   go_enter Try.func27, Try.ntmps27
   go_wp2_with (first | ((with_reducible refine gate_callee (f := 140) rfl ?_); refine goesL_ (some 15) rfl rfl Try.func140 (by kernel_rfl) rfl #[.int .i64 a0, .int .i64 a1, .int .i64 a2, .int .i64 a3] rfl ZA ?_; (with_reducible refine (spec_l09Given.calls a0 a1 a2 a3 true _ A5.out).mono ?_); rintro e w' ⟨rfl, ⟨nd, rfl⟩⟩; refine ⟨_, rfl, ?_⟩) | ((with_reducible refine gate_callee (f := 141) rfl ?_); refine goesL_ (some 22) rfl rfl Try.func141 (by kernel_rfl) rfl #[.int .i64 a0, .int .i64 a1, .int .i64 a2, .int .i64 a3, .bool false] rfl ZA ?_; (with_reducible refine (spec_l09Count.calls k a0 a1 a2 a3 false t947 _ A7.out).mono ?_); rintro e w9 ⟨rfl, hb⟩; refine ⟨_, rfl, ?_⟩; have n0_ := Aside0.mk (below_step ZB hb); clear HB; have HB := n0_; clear n0_; (try clear hb)))
   go_ret2
   exact ⟨_, ZqR, by first | exact Kd.R_nil _ _ _ _ _ | exact Kd.N_nil _ _ _ _ _ | exact Kd.V_nil _ _ _ _ _ | exact Kd.Q_nil _ _ _ _ _ | exact Kd.S_nil _ _ _ _ _, ZB⟩
  ·rw [if_neg c8] at H
   have c8b0 : decide (400 < t947) = false := decide_eq_false c8
   clear c8
   replace H := Option.bind_eq_some_iff.mp H
   obtain ⟨t948, A100, H⟩ := H
   try dsimp only at H
   have A10 := Aside0.mk A100
   clear A100
   simp only [Option.some.injEq, Prod.mk.injEq] at H
   obtain ⟨rfl, rfl⟩ := H
   go_enter Try.func27, Try.ntmps27
   go_wp2_with (first | ((with_reducible refine gate_callee (f := 140) rfl ?_); refine goesL_ (some 15) rfl rfl Try.func140 (by kernel_rfl) rfl #[.int .i64 a0, .int .i64 a1, .int .i64 a2, .int .i64 a3] rfl ZA ?_; (with_reducible refine (spec_l09Given.calls a0 a1 a2 a3 true _ A5.out).mono ?_); rintro e w' ⟨rfl, ⟨nd, rfl⟩⟩; refine ⟨_, rfl, ?_⟩) | ((with_reducible refine gate_callee (f := 141) rfl ?_); refine goesL_ (some 22) rfl rfl Try.func141 (by kernel_rfl) rfl #[.int .i64 a0, .int .i64 a1, .int .i64 a2, .int .i64 a3, .bool false] rfl ZA ?_; (with_reducible refine (spec_l09Count.calls k a0 a1 a2 a3 false t947 _ A7.out).mono ?_); rintro e w11 ⟨rfl, hb⟩; refine ⟨_, rfl, ?_⟩; have n0_ := Aside0.mk (below_step ZB hb); clear HB; have HB := n0_; clear n0_; (try clear hb)) | ((with_reducible refine gate_callee (f := 142) rfl ?_); refine goesL_ (some 28) rfl rfl Try.func142 (by kernel_rfl) rfl #[.int .i64 a0, .int .i64 a1, .int .i64 a2, .int .i64 a3] rfl ZA ?_; (with_reducible refine (spec_l09Paths.calls k a0 a1 a2 a3 t948 _ A10.out).mono ?_); rintro e w12 ⟨v949, rfl, ho0, hb⟩; refine ⟨_, rfl, ?_⟩; have n0_ := Aside0.mk (Kd.R_lower ho0 (below_size ZB)); have n1_ := Aside0.mk (below_step ZB hb); clear HB; have HO950 := n0_; have HB := n1_; clear n0_ n1_; (try clear hb); (try clear ho0)))
   go_ret2
   exact ⟨_, ZqR, by refine ZQ ?_; exact HO950.out, ZB⟩
 ·replace c6 := Bool.eq_false_iff.mpr c6
  subst c6
  rw [if_neg (show ¬ (false = true) by decide)] at H
  simp only [Option.some.injEq, Prod.mk.injEq] at H
  obtain ⟨rfl, rfl⟩ := H
  go_enter Try.func27, Try.ntmps27
  go_wp2_with (first | ((with_reducible refine gate_callee (f := 140) rfl ?_); refine goesL_ (some 15) rfl rfl Try.func140 (by kernel_rfl) rfl #[.int .i64 a0, .int .i64 a1, .int .i64 a2, .int .i64 a3] rfl ZA ?_; (with_reducible refine (spec_l09Given.calls a0 a1 a2 a3 false _ A5.out).mono ?_); rintro e w' ⟨rfl, ⟨nd, rfl⟩⟩; refine ⟨_, rfl, ?_⟩))
  go_ret2
  exact ⟨_, ZqR, by first | exact Kd.R_nil _ _ _ _ _ | exact Kd.N_nil _ _ _ _ _ | exact Kd.V_nil _ _ _ _ _ | exact Kd.Q_nil _ _ _ _ _ | exact Kd.S_nil _ _ _ _ _, ZB⟩

/-! ### impl_CountPaths: function 28 -/
def impl_CountPaths.f (k : Nat) (a0 : Int) (a1 : Int) (a2 : Int) (a3 : Int) : Option (Int × Int) := (impl_areCounted.f (([a0, a1, a2, a3] : List Int))).bind fun t954 => (if t954 = true then ((impl_countPaths.f k a0 a1 a2 a3 true).bind fun t955 => (some (t955, 0))) else (some (0, 2)))
theorem impl_CountPaths.mono : ∀ a0 a1 a2 a3 k, LeO (impl_CountPaths.f k a0 a1 a2 a3) (impl_CountPaths.f (k + 1) a0 a1 a2 a3) := by
 intro a0 a1 a2 a3 k
 unfold impl_CountPaths.f
 repeat' first
   | (with_reducible exact impl_countPaths.mono _ _ _ _ _ _)
   | (with_reducible exact LeO.refl _)
   | (with_reducible exact LeO.none _)
   | (with_reducible refine LeO.ite ?_ ?_)
   | (with_reducible refine LeO.bind ?_ (fun _ => ?_))
   | exact impl_countPaths.mono _ _ _ _ _ _
   | exact LeO.none _
   | refine LeO.ite ?_ ?_
   | refine LeO.bind ?_ (fun _ => ?_)
set_option maxHeartbeats 8000000 in
set_option maxRecDepth 100000 in
theorem impl_CountPaths.calls (k : Nat) (a0 : Int) (a1 : Int) (a2 : Int) (a3 : Int) (r1 : Int) (r2 : Int) (w : World) (h : impl_CountPaths.f k a0 a1 a2 a3 = some (r1, r2)) :
  Calls Try.prog 28 #[.int .i64 a0, .int .i64 a1, .int .i64 a2, .int .i64 a3] w fun e w' => e = .returned (.tuple #[.int .i64 r1, .int .i64 r2]) ∧ Below w.heap.size w w' := by
 have HB := Aside0.mk (Below.refl w.heap.size w)
 have H : ((impl_areCounted.f (([a0, a1, a2, a3] : List Int))).bind fun t954 => (if t954 = true then ((impl_countPaths.f k a0 a1 a2 a3 true).bind fun t955 => (some (t955, 0))) else (some (0, 2)))) = some (r1, r2) := h
 clear h
 obtain ⟨y951, hy951⟩ : ∃ y_ : List Int, y_ = (([a0, a1, a2, a3] : List Int)) := ⟨_, rfl⟩
 replace H : ((impl_areCounted.f y951).bind fun t954 => (if t954 = true then ((impl_countPaths.f k a0 a1 a2 a3 true).bind fun t955 => (some (t955, 0))) else (some (0, 2)))) = some (r1, r2) := by have hq_ := hy951; exact ZqH
 have Ny951 := Aside0.mk hy951
 clear hy951
 replace H := Option.bind_eq_some_iff.mp H
 obtain ⟨t954, A50, H⟩ := H
 try dsimp only at H
 have A5 := Aside0.mk A50
 clear A50
 by_cases c6 : t954 = true
 ·subst c6
  rw [if_pos rfl] at H
  replace H := Option.bind_eq_some_iff.mp H
  obtain ⟨t955, A70, H⟩ := H
  try dsimp only at H
  have A7 := Aside0.mk A70
  clear A70
  simp only [Option.some.injEq, Prod.mk.injEq] at H
  obtain ⟨rfl, rfl⟩ := H
  go_enter Try.func28, Try.ntmps28
  go_wp2_with (first | ((with_reducible refine gate_dst (N := 14) rfl ?_); refine Kd.R_lit (Kd.int .i64) _ 2 ?hg (N := 14) ?hd (xs := ([a0, a1, a2, a3] : List Int)) (inner := [.int .i64 a0, .int .i64 a1, .int .i64 a2, .int .i64 a3]) (ok := fun _ => True) (okp := fun _ => True) ?hr ?hp (fun _ hk => hk) trivial (Below.refl _ _) (Nat.le_refl _) (by simp) ?_; (case hd => rfl); (case hg => rfl); (case hr => exact ZqT); (case hp => exact (Reps.one (show Kd.M (Kd.int .i64) _ _ _ a0 [.int .i64 a0] from rfl) (Reps.one (show Kd.M (Kd.int .i64) _ _ _ a1 [.int .i64 a1] from rfl) (Reps.one (show Kd.M (Kd.int .i64) _ _ _ a2 [.int .i64 a2] from rfl) (Reps.one (show Kd.M (Kd.int .i64) _ _ _ a3 [.int .i64 a3] from rfl) (Reps.none _ _)))))); intro v952 w8 ho9 hb hg_ hnew_; clear hg_ hnew_; (first | rw [← Ny951.out] at ho9 | (simp only [Int.reduceToNat] at ho9; rw [← Ny951.out] at ho9)); have n0_ := Aside0.mk (Kd.R_lower ho9 (below_size ZB)); have n1_ := Aside0.mk (below_step ZB hb); clear HB; have HO953 := n0_; have HB := n1_; clear n0_ n1_; clear hb ho9; obtain ⟨Ao10, co10, eo10⟩ := Kd.R_slice HO953.out; subst eo10) | ((with_reducible refine gate_callee (f := 137) rfl ?_); refine goesL_ (some 15) rfl rfl Try.func137 (by kernel_rfl) rfl #[.slice Ao10 y951.length co10] rfl ZA ?_; (with_reducible refine (impl_areCounted.calls _ _ y951 true _ ?side1 ?side2 A5.out).mono ?_); (case side1 => exact ZqC ((Kd.R_reads' HO953.out).2.2)); (case side2 => exact (Kd.R_reads' HO953.out).2.1); rintro e w11 ⟨rfl, hb⟩; refine ⟨_, rfl, ?_⟩; have n0_ := Aside0.mk (Kd.R_below (ZR HO953) hb); have n1_ := Aside0.mk (below_step ZB hb); clear HO953 HB; have HO953 := n0_; have HB := n1_; clear n0_ n1_; (try clear hb)) | ((with_reducible refine gate_callee (f := 138) rfl ?_); refine goesL_ (some 21) rfl rfl Try.func138 (by kernel_rfl) rfl #[.int .i64 a0, .int .i64 a1, .int .i64 a2, .int .i64 a3, .bool true] rfl ZA ?_; (with_reducible refine (impl_countPaths.calls k a0 a1 a2 a3 true t955 _ A7.out).mono ?_); rintro e w12 ⟨rfl, hb⟩; refine ⟨_, rfl, ?_⟩; have n0_ := Aside0.mk (Kd.R_below (ZR HO953) hb); have n1_ := Aside0.mk (below_step ZB hb); clear HO953 HB; have HO953 := n0_; have HB := n1_; clear n0_ n1_; (try clear hb)))
  go_ret2
  exact ⟨ZqR, ZB⟩
 ·replace c6 := Bool.eq_false_iff.mpr c6
  subst c6
  rw [if_neg (show ¬ (false = true) by decide)] at H
  simp only [Option.some.injEq, Prod.mk.injEq] at H
  obtain ⟨rfl, rfl⟩ := H
  go_enter Try.func28, Try.ntmps28
  go_wp2_with (first | ((with_reducible refine gate_dst (N := 14) rfl ?_); refine Kd.R_lit (Kd.int .i64) _ 2 ?hg (N := 14) ?hd (xs := ([a0, a1, a2, a3] : List Int)) (inner := [.int .i64 a0, .int .i64 a1, .int .i64 a2, .int .i64 a3]) (ok := fun _ => True) (okp := fun _ => True) ?hr ?hp (fun _ hk => hk) trivial (Below.refl _ _) (Nat.le_refl _) (by simp) ?_; (case hd => rfl); (case hg => rfl); (case hr => exact ZqT); (case hp => exact (Reps.one (show Kd.M (Kd.int .i64) _ _ _ a0 [.int .i64 a0] from rfl) (Reps.one (show Kd.M (Kd.int .i64) _ _ _ a1 [.int .i64 a1] from rfl) (Reps.one (show Kd.M (Kd.int .i64) _ _ _ a2 [.int .i64 a2] from rfl) (Reps.one (show Kd.M (Kd.int .i64) _ _ _ a3 [.int .i64 a3] from rfl) (Reps.none _ _)))))); intro v952 w13 ho14 hb hg_ hnew_; clear hg_ hnew_; (first | rw [← Ny951.out] at ho14 | (simp only [Int.reduceToNat] at ho14; rw [← Ny951.out] at ho14)); have n0_ := Aside0.mk (Kd.R_lower ho14 (below_size ZB)); have n1_ := Aside0.mk (below_step ZB hb); clear HB; have HO953 := n0_; have HB := n1_; clear n0_ n1_; clear hb ho14; obtain ⟨Ao15, co15, eo15⟩ := Kd.R_slice HO953.out; subst eo15) | ((with_reducible refine gate_callee (f := 137) rfl ?_); refine goesL_ (some 15) rfl rfl Try.func137 (by kernel_rfl) rfl #[.slice Ao15 y951.length co15] rfl ZA ?_; (with_reducible refine (impl_areCounted.calls _ _ y951 false _ ?side1 ?side2 A5.out).mono ?_); (case side1 => exact ZqC ((Kd.R_reads' HO953.out).2.2)); (case side2 => exact (Kd.R_reads' HO953.out).2.1); rintro e w16 ⟨rfl, hb⟩; refine ⟨_, rfl, ?_⟩; have n0_ := Aside0.mk (Kd.R_below (ZR HO953) hb); have n1_ := Aside0.mk (below_step ZB hb); clear HO953 HB; have HO953 := n0_; have HB := n1_; clear n0_ n1_; (try clear hb)))
  go_ret2
  exact ⟨ZqR, ZB⟩

/-! ### impl_CountLevelPaths: function 29 -/
def impl_CountLevelPaths.f (k : Nat) (a0 : Int) (a1 : Int) (a2 : Int) (a3 : Int) : Option (Int × Int) := (impl_areCounted.f (([a0, a1, a2, a3] : List Int))).bind fun t959 => (if t959 = true then ((impl_countPaths.f k a0 a1 a2 a3 false).bind fun t960 => (some (t960, 0))) else (some (0, 2)))
theorem impl_CountLevelPaths.mono : ∀ a0 a1 a2 a3 k, LeO (impl_CountLevelPaths.f k a0 a1 a2 a3) (impl_CountLevelPaths.f (k + 1) a0 a1 a2 a3) := by
 intro a0 a1 a2 a3 k
 unfold impl_CountLevelPaths.f
 repeat' first
   | (with_reducible exact impl_countPaths.mono _ _ _ _ _ _)
   | (with_reducible exact LeO.refl _)
   | (with_reducible exact LeO.none _)
   | (with_reducible refine LeO.ite ?_ ?_)
   | (with_reducible refine LeO.bind ?_ (fun _ => ?_))
   | exact impl_countPaths.mono _ _ _ _ _ _
   | exact LeO.none _
   | refine LeO.ite ?_ ?_
   | refine LeO.bind ?_ (fun _ => ?_)
set_option maxHeartbeats 8000000 in
set_option maxRecDepth 100000 in
theorem impl_CountLevelPaths.calls (k : Nat) (a0 : Int) (a1 : Int) (a2 : Int) (a3 : Int) (r1 : Int) (r2 : Int) (w : World) (h : impl_CountLevelPaths.f k a0 a1 a2 a3 = some (r1, r2)) :
  Calls Try.prog 29 #[.int .i64 a0, .int .i64 a1, .int .i64 a2, .int .i64 a3] w fun e w' => e = .returned (.tuple #[.int .i64 r1, .int .i64 r2]) ∧ Below w.heap.size w w' := by
 have HB := Aside0.mk (Below.refl w.heap.size w)
 have H : ((impl_areCounted.f (([a0, a1, a2, a3] : List Int))).bind fun t959 => (if t959 = true then ((impl_countPaths.f k a0 a1 a2 a3 false).bind fun t960 => (some (t960, 0))) else (some (0, 2)))) = some (r1, r2) := h
 clear h
 obtain ⟨y956, hy956⟩ : ∃ y_ : List Int, y_ = (([a0, a1, a2, a3] : List Int)) := ⟨_, rfl⟩
 replace H : ((impl_areCounted.f y956).bind fun t959 => (if t959 = true then ((impl_countPaths.f k a0 a1 a2 a3 false).bind fun t960 => (some (t960, 0))) else (some (0, 2)))) = some (r1, r2) := by have hq_ := hy956; exact ZqH
 have Ny956 := Aside0.mk hy956
 clear hy956
 replace H := Option.bind_eq_some_iff.mp H
 obtain ⟨t959, A50, H⟩ := H
 try dsimp only at H
 have A5 := Aside0.mk A50
 clear A50
 by_cases c6 : t959 = true
 ·subst c6
  rw [if_pos rfl] at H
  replace H := Option.bind_eq_some_iff.mp H
  obtain ⟨t960, A70, H⟩ := H
  try dsimp only at H
  have A7 := Aside0.mk A70
  clear A70
  simp only [Option.some.injEq, Prod.mk.injEq] at H
  obtain ⟨rfl, rfl⟩ := H
  go_enter Try.func29, Try.ntmps29
  go_wp2_with (first | ((with_reducible refine gate_dst (N := 14) rfl ?_); refine Kd.R_lit (Kd.int .i64) _ 2 ?hg (N := 14) ?hd (xs := ([a0, a1, a2, a3] : List Int)) (inner := [.int .i64 a0, .int .i64 a1, .int .i64 a2, .int .i64 a3]) (ok := fun _ => True) (okp := fun _ => True) ?hr ?hp (fun _ hk => hk) trivial (Below.refl _ _) (Nat.le_refl _) (by simp) ?_; (case hd => rfl); (case hg => rfl); (case hr => exact ZqT); (case hp => exact (Reps.one (show Kd.M (Kd.int .i64) _ _ _ a0 [.int .i64 a0] from rfl) (Reps.one (show Kd.M (Kd.int .i64) _ _ _ a1 [.int .i64 a1] from rfl) (Reps.one (show Kd.M (Kd.int .i64) _ _ _ a2 [.int .i64 a2] from rfl) (Reps.one (show Kd.M (Kd.int .i64) _ _ _ a3 [.int .i64 a3] from rfl) (Reps.none _ _)))))); intro v957 w8 ho9 hb hg_ hnew_; clear hg_ hnew_; (first | rw [← Ny956.out] at ho9 | (simp only [Int.reduceToNat] at ho9; rw [← Ny956.out] at ho9)); have n0_ := Aside0.mk (Kd.R_lower ho9 (below_size ZB)); have n1_ := Aside0.mk (below_step ZB hb); clear HB; have HO958 := n0_; have HB := n1_; clear n0_ n1_; clear hb ho9; obtain ⟨Ao10, co10, eo10⟩ := Kd.R_slice HO958.out; subst eo10) | ((with_reducible refine gate_callee (f := 137) rfl ?_); refine goesL_ (some 15) rfl rfl Try.func137 (by kernel_rfl) rfl #[.slice Ao10 y956.length co10] rfl ZA ?_; (with_reducible refine (impl_areCounted.calls _ _ y956 true _ ?side1 ?side2 A5.out).mono ?_); (case side1 => exact ZqC ((Kd.R_reads' HO958.out).2.2)); (case side2 => exact (Kd.R_reads' HO958.out).2.1); rintro e w11 ⟨rfl, hb⟩; refine ⟨_, rfl, ?_⟩; have n0_ := Aside0.mk (Kd.R_below (ZR HO958) hb); have n1_ := Aside0.mk (below_step ZB hb); clear HO958 HB; have HO958 := n0_; have HB := n1_; clear n0_ n1_; (try clear hb)) | ((with_reducible refine gate_callee (f := 138) rfl ?_); refine goesL_ (some 21) rfl rfl Try.func138 (by kernel_rfl) rfl #[.int .i64 a0, .int .i64 a1, .int .i64 a2, .int .i64 a3, .bool false] rfl ZA ?_; (with_reducible refine (impl_countPaths.calls k a0 a1 a2 a3 false t960 _ A7.out).mono ?_); rintro e w12 ⟨rfl, hb⟩; refine ⟨_, rfl, ?_⟩; have n0_ := Aside0.mk (Kd.R_below (ZR HO958) hb); have n1_ := Aside0.mk (below_step ZB hb); clear HO958 HB; have HO958 := n0_; have HB := n1_; clear n0_ n1_; (try clear hb)))
  go_ret2
  exact ⟨ZqR, ZB⟩
 ·replace c6 := Bool.eq_false_iff.mpr c6
  subst c6
  rw [if_neg (show ¬ (false = true) by decide)] at H
  simp only [Option.some.injEq, Prod.mk.injEq] at H
  obtain ⟨rfl, rfl⟩ := H
  go_enter Try.func29, Try.ntmps29
  go_wp2_with (first | ((with_reducible refine gate_dst (N := 14) rfl ?_); refine Kd.R_lit (Kd.int .i64) _ 2 ?hg (N := 14) ?hd (xs := ([a0, a1, a2, a3] : List Int)) (inner := [.int .i64 a0, .int .i64 a1, .int .i64 a2, .int .i64 a3]) (ok := fun _ => True) (okp := fun _ => True) ?hr ?hp (fun _ hk => hk) trivial (Below.refl _ _) (Nat.le_refl _) (by simp) ?_; (case hd => rfl); (case hg => rfl); (case hr => exact ZqT); (case hp => exact (Reps.one (show Kd.M (Kd.int .i64) _ _ _ a0 [.int .i64 a0] from rfl) (Reps.one (show Kd.M (Kd.int .i64) _ _ _ a1 [.int .i64 a1] from rfl) (Reps.one (show Kd.M (Kd.int .i64) _ _ _ a2 [.int .i64 a2] from rfl) (Reps.one (show Kd.M (Kd.int .i64) _ _ _ a3 [.int .i64 a3] from rfl) (Reps.none _ _)))))); intro v957 w13 ho14 hb hg_ hnew_; clear hg_ hnew_; (first | rw [← Ny956.out] at ho14 | (simp only [Int.reduceToNat] at ho14; rw [← Ny956.out] at ho14)); have n0_ := Aside0.mk (Kd.R_lower ho14 (below_size ZB)); have n1_ := Aside0.mk (below_step ZB hb); clear HB; have HO958 := n0_; have HB := n1_; clear n0_ n1_; clear hb ho14; obtain ⟨Ao15, co15, eo15⟩ := Kd.R_slice HO958.out; subst eo15) | ((with_reducible refine gate_callee (f := 137) rfl ?_); refine goesL_ (some 15) rfl rfl Try.func137 (by kernel_rfl) rfl #[.slice Ao15 y956.length co15] rfl ZA ?_; (with_reducible refine (impl_areCounted.calls _ _ y956 false _ ?side1 ?side2 A5.out).mono ?_); (case side1 => exact ZqC ((Kd.R_reads' HO958.out).2.2)); (case side2 => exact (Kd.R_reads' HO958.out).2.1); rintro e w16 ⟨rfl, hb⟩; refine ⟨_, rfl, ?_⟩; have n0_ := Aside0.mk (Kd.R_below (ZR HO958) hb); have n1_ := Aside0.mk (below_step ZB hb); clear HO958 HB; have HO958 := n0_; have HB := n1_; clear n0_ n1_; (try clear hb)))
  go_ret2
  exact ⟨ZqR, ZB⟩

end Go.Proofs.Ytlodpobegdbhaaa.X
