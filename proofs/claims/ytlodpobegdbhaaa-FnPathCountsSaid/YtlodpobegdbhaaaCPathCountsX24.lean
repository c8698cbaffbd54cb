/- Contracts of functions that the law reaches, printed by a program of this session; Lean checks them. -/
import Derived.Test.YtlodpobegdbhaaaCPathCountsX0
import Derived.Test.YtlodpobegdbhaaaCPathCountsXZ
namespace Go.Proofs.Ytlodpobegdbhaaa.X
open Go.RowKit Go.Proofs.YtlodpobegdbhaaaW.PrintWords Go.Proofs.YtlodpobegdbhaaaW.PrintLast Go.Proofs.YtlodpobegdbhaaaW.PrintMore
attribute [local go_sem] max2_int min2_int max_two min_two max_three min_three max_four min_four   -- for this text's walks alone
set_option linter.unusedVariables false
set_option linter.unusedSimpArgs false

/-! ### spec_l09Counts: function 223 -/
mutual
def spec_l09Counts.j0 : Nat → Int → Int → Bool → List Int → Option (List Int)
 | 0, _, _, _, _ => none
 | k + 1, x0, x2, x3, x9 => spec_l09Counts.l0 k x0 x2 x3 x9
def spec_l09Counts.l0 : Nat → Int → Int → Bool → List Int → Option (List Int)
 | 0, _, _, _, _ => none
 | k + 1, x0, x2, x3, x9 => if x0 > 0 then (if 0 ≤ (wrap64 (x2 + 1)) then (if (wrap64 (x2 + 1) : Int).toNat ≤ 35184372088832 then (spec_l09Counts.l1 k x0 x2 x3 x9 (List.replicate (wrap64 (x2 + 1) : Int).toNat 0) 0) else (none)) else (none)) else (some x9)
def spec_l09Counts.l1 : Nat → Int → Int → Bool → List Int → List Int → Int → Option (List Int)
 | 0, _, _, _, _, _, _ => none
 | k + 1, x0, x2, x3, x9, x10, x11 => if x11 ≤ x2 then (if x3 = true then (spec_l09Counts.j3 k x0 x2 x3 x9 x10 x11) else (if 0 ≤ x11 then (if x11 < (x10.length : Int) then (if x11 < (x9.length : Int) then (spec_l09Counts.j3 k x0 x2 x3 x9 (x10.set (x11 : Int).toNat (wrap64 ((rd x10 x11) + (rd x9 x11)))) x11) else (none)) else (none)) else (none))) else (spec_l09Counts.l0 k (wrap64 (x0 - 1)) x2 x3 x10)
def spec_l09Counts.j3 : Nat → Int → Int → Bool → List Int → List Int → Int → Option (List Int)
 | 0, _, _, _, _, _, _ => none
 | k + 1, x0, x2, x3, x9, x10, x11 => if x11 > 0 then (if 0 ≤ (wrap64 (x11 - 1)) then (if (wrap64 (x11 - 1)) < (x10.length : Int) then (if 0 ≤ x11 then (if x11 < (x9.length : Int) then ((some (x10.set ((wrap64 (x11 - 1)) : Int).toNat (wrap64 ((rd x10 (wrap64 (x11 - 1))) + (rd x9 x11))) : List Int)).bind fun y915 => (if x11 < x2 then (if 0 ≤ (wrap64 (x11 + 1)) then (if (wrap64 (x11 + 1)) < (x10.length : Int) then (spec_l09Counts.l1 k x0 x2 x3 x9 (y915.set ((wrap64 (x11 + 1)) : Int).toNat (wrap64 ((rd y915 (wrap64 (x11 + 1))) + (rd x9 x11)))) (wrap64 (x11 + 1))) else (none)) else (none)) else (spec_l09Counts.l1 k x0 x2 x3 x9 y915 (wrap64 (x11 + 1))))) else (none)) else (none)) else (none)) else (none)) else (if x11 < x2 then (if 0 ≤ (wrap64 (x11 + 1)) then (if (wrap64 (x11 + 1)) < (x10.length : Int) then (if 0 ≤ x11 then (if x11 < (x9.length : Int) then (spec_l09Counts.l1 k x0 x2 x3 x9 (x10.set ((wrap64 (x11 + 1)) : Int).toNat (wrap64 ((rd x10 (wrap64 (x11 + 1))) + (rd x9 x11)))) (wrap64 (x11 + 1))) else (none)) else (none)) else (none)) else (none)) else (spec_l09Counts.l1 k x0 x2 x3 x9 x10 (wrap64 (x11 + 1))))
end
def spec_l09Counts.f (k : Nat) (a0 : Int) (a1 : Int) (a2 : Int) (a3 : Bool) : Option (List Int) := if 0 ≤ (wrap64 (a2 + 1)) then (if (wrap64 (a2 + 1) : Int).toNat ≤ 35184372088832 then ((some (List.replicate (wrap64 (a2 + 1) : Int).toNat 0 : List Int)).bind fun y903 => (if a1 ≤ a2 then (if 0 ≤ a1 then (if a1 < (y903.length : Int) then (spec_l09Counts.j0 k a0 a2 a3 (y903.set (a1 : Int).toNat 1)) else (none)) else (none)) else (spec_l09Counts.j0 k a0 a2 a3 y903))) else (none)) else (none)
theorem spec_l09Counts.mono_l : ∀ k, (∀ y0 y1 y2 y3, LeO (spec_l09Counts.j0 k y0 y1 y2 y3) (spec_l09Counts.j0 (k + 1) y0 y1 y2 y3)) ∧ (∀ y0 y1 y2 y3, LeO (spec_l09Counts.l0 k y0 y1 y2 y3) (spec_l09Counts.l0 (k + 1) y0 y1 y2 y3)) ∧ (∀ y0 y1 y2 y3 y4 y5, LeO (spec_l09Counts.l1 k y0 y1 y2 y3 y4 y5) (spec_l09Counts.l1 (k + 1) y0 y1 y2 y3 y4 y5)) ∧ (∀ y0 y1 y2 y3 y4 y5, LeO (spec_l09Counts.j3 k y0 y1 y2 y3 y4 y5) (spec_l09Counts.j3 (k + 1) y0 y1 y2 y3 y4 y5))
 | 0 => ⟨fun _ _ _ _ r h => by simp [spec_l09Counts.j0] at h, fun _ _ _ _ r h => by simp [spec_l09Counts.l0] at h, fun _ _ _ _ _ _ r h => by simp [spec_l09Counts.l1] at h, fun _ _ _ _ _ _ r h => by simp [spec_l09Counts.j3] at h⟩
 | k + 1 => by
  obtain ⟨ih0, ih1, ih2, ih3⟩ := spec_l09Counts.mono_l k
  refine ⟨?_, ?_, ?_, ?_⟩
  ·intro y0 y1 y2 y3
   unfold spec_l09Counts.j0
   repeat' first
   | (with_reducible exact ih0 _ _ _ _)
   | (with_reducible exact ih1 _ _ _ _)
   | (with_reducible exact ih2 _ _ _ _ _ _)
   | (with_reducible exact ih3 _ _ _ _ _ _)
   | (with_reducible exact LeO.refl _)
   | (with_reducible exact LeO.none _)
   | (with_reducible refine LeO.ite ?_ ?_)
   | (with_reducible refine LeO.bind ?_ (fun _ => ?_))
   | exact ih0 _ _ _ _
   | exact ih1 _ _ _ _
   | exact ih2 _ _ _ _ _ _
   | exact ih3 _ _ _ _ _ _
   | exact LeO.none _
   | refine LeO.ite ?_ ?_
   | refine LeO.bind ?_ (fun _ => ?_)
  ·intro y0 y1 y2 y3
   unfold spec_l09Counts.l0
   repeat' first
   | (with_reducible exact ih0 _ _ _ _)
   | (with_reducible exact ih1 _ _ _ _)
   | (with_reducible exact ih2 _ _ _ _ _ _)
   | (with_reducible exact ih3 _ _ _ _ _ _)
   | (with_reducible exact LeO.refl _)
   | (with_reducible exact LeO.none _)
   | (with_reducible refine LeO.ite ?_ ?_)
   | (with_reducible refine LeO.bind ?_ (fun _ => ?_))
   | exact ih0 _ _ _ _
   | exact ih1 _ _ _ _
   | exact ih2 _ _ _ _ _ _
   | exact ih3 _ _ _ _ _ _
   | exact LeO.none _
   | refine LeO.ite ?_ ?_
   | refine LeO.bind ?_ (fun _ => ?_)
  ·intro y0 y1 y2 y3 y4 y5
   unfold spec_l09Counts.l1
   repeat' first
   | (with_reducible exact ih0 _ _ _ _)
   | (with_reducible exact ih1 _ _ _ _)
   | (with_reducible exact ih2 _ _ _ _ _ _)
   | (with_reducible exact ih3 _ _ _ _ _ _)
   | (with_reducible exact LeO.refl _)
   | (with_reducible exact LeO.none _)
   | (with_reducible refine LeO.ite ?_ ?_)
   | (with_reducible refine LeO.bind ?_ (fun _ => ?_))
   | exact ih0 _ _ _ _
   | exact ih1 _ _ _ _
   | exact ih2 _ _ _ _ _ _
   | exact ih3 _ _ _ _ _ _
   | exact LeO.none _
   | refine LeO.ite ?_ ?_
   | refine LeO.bind ?_ (fun _ => ?_)
  ·intro y0 y1 y2 y3 y4 y5
   unfold spec_l09Counts.j3
   repeat' first
   | (with_reducible exact ih0 _ _ _ _)
   | (with_reducible exact ih1 _ _ _ _)
   | (with_reducible exact ih2 _ _ _ _ _ _)
   | (with_reducible exact ih3 _ _ _ _ _ _)
   | (with_reducible exact LeO.refl _)
   | (with_reducible exact LeO.none _)
   | (with_reducible refine LeO.ite ?_ ?_)
   | (with_reducible refine LeO.bind ?_ (fun _ => ?_))
   | exact ih0 _ _ _ _
   | exact ih1 _ _ _ _
   | exact ih2 _ _ _ _ _ _
   | exact ih3 _ _ _ _ _ _
   | exact LeO.none _
   | refine LeO.ite ?_ ?_
   | refine LeO.bind ?_ (fun _ => ?_)
theorem spec_l09Counts.mono : ∀ a0 a1 a2 a3 k, LeO (spec_l09Counts.f k a0 a1 a2 a3) (spec_l09Counts.f (k + 1) a0 a1 a2 a3) := by
 intro a0 a1 a2 a3 k
 obtain ⟨ih0, ih1, ih2, ih3⟩ := spec_l09Counts.mono_l k
 unfold spec_l09Counts.f
 repeat' first
   | (with_reducible exact ih0 _ _ _ _)
   | (with_reducible exact ih1 _ _ _ _)
   | (with_reducible exact ih2 _ _ _ _ _ _)
   | (with_reducible exact ih3 _ _ _ _ _ _)
   | (with_reducible exact LeO.refl _)
   | (with_reducible exact LeO.none _)
   | (with_reducible refine LeO.ite ?_ ?_)
   | (with_reducible refine LeO.bind ?_ (fun _ => ?_))
   | exact ih0 _ _ _ _
   | exact ih1 _ _ _ _
   | exact ih2 _ _ _ _ _ _
   | exact ih3 _ _ _ _ _ _
   | exact LeO.none _
   | refine LeO.ite ?_ ?_
   | refine LeO.bind ?_ (fun _ => ?_)
def spec_l09Counts.T11 : Bool × List (List Nat × List Nat) := (true, [([], []), ([], []), ([], []), ([], []), ([2, 3], [2, 3]), ([4], [4]), ([], []), ([], []), ([6, 7], [6, 7]), ([8], [8]), ([5, 9], [5, 9]), ([0, 1, 0, 1, 2, 3, 4, 5, 6, 7, 8, 9, 10], [0, 1]), ([11, 10, 0, 1, 2, 3, 4, 5, 6, 7, 8, 9, 10], [10, 11])])
def spec_l09Counts.B11 : List Nat := [0, 0, 0, 0, 12, 28, 0, 0, 192, 448, 1020, 2047, 4095]
theorem spec_l09Counts.tab11 : rtab .any (opsOf Try.f223 11) = spec_l09Counts.T11 := by kernel_rfl
theorem spec_l09Counts.bits11 : waitsOk spec_l09Counts.T11.2 spec_l09Counts.B11 = true := by kernel_rfl
def spec_l09Counts.T13 : Bool × List (List Nat × List Nat) := (true, [([], []), ([], []), ([1], [1]), ([], []), ([], []), ([4], [4]), ([3, 5], [3, 5]), ([6], [6]), ([], []), ([], []), ([8, 9], [8, 9]), ([10], [10]), ([7, 11], [7, 11]), ([0, 2, 0, 1, 2, 3, 4, 5, 6, 7, 8, 9, 10, 11, 12], [0, 2]), ([13, 12, 0, 1, 2, 3, 4, 5, 6, 7, 8, 9, 10, 11, 12], [12, 13])])
def spec_l09Counts.B13 : List Nat := [0, 0, 2, 0, 0, 16, 56, 120, 0, 0, 768, 1792, 4088, 8191, 16383]
theorem spec_l09Counts.tab13 : rtab .any (opsOf Try.f223 13) = spec_l09Counts.T13 := by kernel_rfl
theorem spec_l09Counts.bits13 : waitsOk spec_l09Counts.T13.2 spec_l09Counts.B13 = true := by kernel_rfl
def spec_l09Counts.T15 : Bool × List (List Nat × List Nat) := (true, [([], []), ([], []), ([1], [1]), ([], []), ([], []), ([4], [4]), ([3, 5], [3, 5]), ([6], [6]), ([], []), ([], []), ([8, 9], [8, 9]), ([10], [10]), ([7, 11], [7, 11]), ([0, 2, 0, 1, 2, 3, 4, 5, 6, 7, 8, 9, 10, 11, 12], [0, 2]), ([13, 12, 0, 1, 2, 3, 4, 5, 6, 7, 8, 9, 10, 11, 12], [12, 13])])
def spec_l09Counts.B15 : List Nat := [0, 0, 2, 0, 0, 16, 56, 120, 0, 0, 768, 1792, 4088, 8191, 16383]
theorem spec_l09Counts.tab15 : rtab .any (opsOf Try.f223 15) = spec_l09Counts.T15 := by kernel_rfl
theorem spec_l09Counts.bits15 : waitsOk spec_l09Counts.T15.2 spec_l09Counts.B15 = true := by kernel_rfl
set_option maxHeartbeats 8000000 in
set_option maxRecDepth 100000 in
theorem spec_l09Counts.calls (k : Nat) (a0 : Int) (a1 : Int) (a2 : Int) (a3 : Bool) (r : List Int) (w : World) (h : spec_l09Counts.f k a0 a1 a2 a3 = some r) :
  Calls Try.prog 223 #[.int .i64 a0, .int .i64 a1, .int .i64 a2, .bool a3] w fun e w' => ∃ v0_ : Value, e = .returned (v0_) ∧ Kd.R (Kd.int .i64) 2 w' w.heap.size (fun _ => True) v0_ r ∧ Below w.heap.size w w' := by
 have HB := Aside0.mk (Below.refl w.heap.size w)
 have H : (if 0 ≤ (wrap64 (a2 + 1)) then (if (wrap64 (a2 + 1) : Int).toNat ≤ 35184372088832 then ((some (List.replicate (wrap64 (a2 + 1) : Int).toNat 0 : List Int)).bind fun y903 => (if a1 ≤ a2 then (if 0 ≤ a1 then (if a1 < (y903.length : Int) then (spec_l09Counts.j0 k a0 a2 a3 (y903.set (a1 : Int).toNat 1)) else (none)) else (none)) else (spec_l09Counts.j0 k a0 a2 a3 y903))) else (none)) else (none)) = some r := h
 clear h
 obtain ⟨ji5, hji5⟩ : ∃ j_ : Int, (wrap64 (a2 + 1)) = j_ := ⟨_, rfl⟩
 replace H : (if 0 ≤ (ji5) then (if (ji5 : Int).toNat ≤ 35184372088832 then ((some (List.replicate (ji5 : Int).toNat 0 : List Int)).bind fun y903 => (if a1 ≤ a2 then (if 0 ≤ a1 then (if a1 < (y903.length : Int) then (spec_l09Counts.j0 k a0 a2 a3 (y903.set (a1 : Int).toNat 1)) else (none)) else (none)) else (spec_l09Counts.j0 k a0 a2 a3 y903))) else (none)) else (none)) = some r := by first | (rw [hji5] at H; exact H) | (simp only [hji5] at H ⊢; exact H)
 have hji5w : (IntKind.i64.wrap (a2 + 1)) = ji5 := (i64_w _).trans hji5
 by_cases c6 : 0 ≤ (ji5)
 ·rw [if_pos c6] at H
  have c6b0 := eq_true c6
  have c6b1 : decide (0 ≤ (ji5)) = true := decide_eq_true c6
  clear c6
  by_cases c7 : (ji5 : Int).toNat ≤ 35184372088832
  ·rw [if_pos c7] at H
   have c7b0 := eq_true c7
   have c7b1 : decide ((ji5 : Int).toNat ≤ 35184372088832) = true := decide_eq_true c7
   clear c7
   obtain ⟨y903, hy903⟩ : ∃ y_ : List Int, y_ = (List.replicate (ji5 : Int).toNat 0) := ⟨_, rfl⟩
   replace H : (if a1 ≤ a2 then (if 0 ≤ a1 then (if a1 < (y903.length : Int) then (spec_l09Counts.j0 k a0 a2 a3 (y903.set (a1 : Int).toNat 1)) else (none)) else (none)) else (spec_l09Counts.j0 k a0 a2 a3 y903)) = some r := by have hq_ := hy903; exact ZqH
   have Ny903 := Aside0.mk hy903
   clear hy903
   have HC8 := Aside0.mk H
   clear H
   go_enter Try.func223, Try.ntmps223
   go_upto_if 17 with (first | ((with_reducible refine gate_dst (N := 14) rfl ?_); refine Kd.R_make (Kd.int .i64) _ 2 rfl (N := 14) rfl 24 _ _ rfl ji5 rfl rfl Try.underlying24 (.int .i64 0) 8 info2 rfl (by decide) (by omega) 0 (ok := fun _ => True) (okp := fun _ => True) rfl (fun _ hk => hk) trivial (of_decide_eq_true (by first | (with_reducible assumption) | assumption)) (Nat.le_trans (Nat.mul_le_mul_right _ (of_decide_eq_true (by first | (with_reducible assumption) | assumption) : ji5.toNat ≤ 35184372088832)) (by omega)) (Below.refl _ _) (Nat.le_refl _) ?_; intro v904 w9 ho10 hb hg_ hnew_; clear hg_ hnew_; (first | rw [← Ny903.out] at ho10 | (simp only [Int.reduceToNat] at ho10; rw [← Ny903.out] at ho10)); have n0_ := Aside0.mk (Kd.R_lower ho10 (below_size ZB)); have n1_ := Aside0.mk (below_step ZB hb); clear HB; have HO905 := n0_; have HB := n1_; clear n0_ n1_; clear hb ho10))
   (try simp only [Act.put, List.setIfInBounds_toArray, List.set_cons_zero, List.set_cons_succ])
   go_cut [] (fun wc => ∃ (kq : Nat) (x9_7 : List Int), Aside0 (spec_l09Counts.j0 kq a0 a2 a3 x9_7 = some r) ∧ Aside0 (kq ≤ k) ∧ Aside0 (Kd.R (Kd.int .i64) 2 wc w.heap.size (fun _ => True) v904 x9_7) ∧ Aside0 (Below w.heap.size w wc))
   case first =>
    have H := HC8.out
    clear HC8
    by_cases c11 : a1 ≤ a2
    ·rw [if_pos c11] at H
     have c11b0 : decide (a1 ≤ a2) = true := decide_eq_true c11
     clear c11
     (first | rw [c11b0] | (simp only [i64_w, i32_w]; rw [c11b0]) | skip)
     by_cases c12 : 0 ≤ a1
     ·rw [if_pos c12] at H
      have c12b0 : decide (0 ≤ a1) = true := decide_eq_true c12
      clear c12
      by_cases c13 : a1 < (y903.length : Int)
      ·rw [if_pos c13] at H
       have c13b0 : decide (a1 < (y903.length : Int)) = true := decide_eq_true c13
       clear c13
       obtain ⟨y906, hy906⟩ : ∃ y_ : List Int, y_ = (y903.set (a1 : Int).toNat 1) := ⟨_, rfl⟩
       replace H : (spec_l09Counts.j0 k a0 a2 a3 y906) = some r := by have hq_ := hy906; exact ZqH
       have Ny906 := Aside0.mk hy906
       clear hy906
       have H' := Aside0.mk H
       clear H
       have p14 : 0 ≤ (a1 : Int) := of_decide_eq_true (by first | (with_reducible assumption) | assumption)
       have q14 : (a1 : Int) < ((y903.length : Int) : Int) := of_decide_eq_true (by first | (with_reducible assumption) | assumption)
       obtain ⟨go14, co14, eo14, gb14, gl14, cl14, HG14⟩ := Kd.R_form HO905.out (by omega)
       (first | cases eo14 | (injection eo14 with ea_ en_ ec_; (first | subst ea_ | (injection ea_ with ea_; subst ea_)); subst ec_; clear en_))
       have GB14 := Aside0.mk gb14
       have GG14 := Aside0.mk HG14
       clear gb14 gl14 HG14
       obtain ⟨hx14_0, hf14_0⟩ := Kd.R_celln 0 HO905.out (a1 : Int) p14 q14
       replace p14 := eq_true p14
       replace q14 := eq_true q14
       have HP15 := Kd.R_putg HO905.out (a1 : Int) 1
       go_wp2_with (first | ((with_reducible refine gate_store (t := 2) (p := 20) rfl ?_); refine store_event (t := 2) (p := 20) (v := ?vo_w16) (w1 := (w9.setCell ⟨go14, (a1 : Int).toNat, none⟩ (.int .i64 1))) ?hg ?ho ?hn ?hr ?_; (case ho => rfl); (case hg => rfl); (case hn => rfl); (case hr => exact ZqT); intro w16 hw; have hg : w9.grownBy w16 (some go14) := (by rw [hw]; exact HP15.2); have hp_ : Kd.R (Kd.int .i64) 2 w16 w.heap.size (fun _ => True) (.slice (some ⟨go14, 0, none⟩) y903.length co14) y906 := (by rw [hw, Ny906.out]; exact HP15.1); clear HP15; have n0_ := Aside0.mk (hp_); have n1_ := Aside0.mk ((by rw [hw]; exact below_set (HB.out) GB14.out : Below w.heap.size w w16)); clear HO905 HB; have HO905 := n0_; have HB := n1_; clear n0_ n1_; clear hg hw hp_))
       go_meet
       case rel => exact ⟨_, (y906), H', ⟨by first | omega | exact Nat.le_refl _⟩, ⟨ZR HO905⟩, ⟨ZB⟩⟩
      ·rw [if_neg c13] at H
       exact absurd H (by simp)
     ·rw [if_neg c12] at H
      exact absurd H (by simp)
    ·rw [if_neg c11] at H
     have c11b0 : decide (a1 ≤ a2) = false := decide_eq_false c11
     clear c11
     (first | rw [c11b0] | (simp only [i64_w, i32_w]; rw [c11b0]) | skip)
     have H' := Aside0.mk H
     clear H
     go_wp2
     go_meet
     case rel => exact ⟨_, (y903), H', ⟨by first | omega | exact Nat.le_refl _⟩, ⟨ZR HO905⟩, ⟨ZB⟩⟩
   case rest =>
    clear HC8
    try clear c1
    try clear p1
    try clear q1
    try clear hx1
    try clear c2
    try clear p2
    try clear c6
    try clear c6b0
    try clear c6b1
    try clear p6
    try clear c7
    try clear c7b0
    try clear c7b1
    try clear c11
    try clear c11b0
    try clear c12
    try clear c12b0
    try clear c13
    try clear c13b0
    try clear p14
    try clear q14
    try clear hx14
    try clear hf14
    try clear hx14_0
    try clear p14
    try clear q14
    obtain ⟨kq, x9_7, HA, HJ7, HO_9, HB⟩ := hcut
    cases kq with
    | zero => exact absurd HA.out (by simp [spec_l09Counts.j0])
    | succ kj7 =>
     have H := HA.out
     clear HA
     simp only [spec_l09Counts.j0] at H
     have H' := Aside0.mk H
     clear H
     go_wp2
     go_loopg [0, 9] kj7 (fun kq v0 v9 w' => ∃ (x0_2 : Int) (x9_2 : List Int), v0 = .int .i64 x0_2 ∧ Aside0 (spec_l09Counts.l0 kq x0_2 a2 a3 x9_2 = some r) ∧ Aside0 (kq ≤ kj7) ∧ Aside0 (Kd.R (Kd.int .i64) 2 w' w.heap.size (fun _ => True) v9 x9_2) ∧ Aside0 (Below w.heap.size w w'))
     case atStart => exact ⟨(a0), (x9_7), (ZqS), H', ⟨Nat.le_refl _⟩, ⟨ZR HO_9⟩, ⟨ZB⟩⟩
     case round =>
      clear H'
      try clear c1
      try clear p1
      try clear q1
      try clear hx1
      try clear c2
      try clear p2
      try clear c6
      try clear c6b0
      try clear c6b1
      try clear p6
      try clear c7
      try clear c7b0
      try clear c7b1
      try clear c11
      try clear c11b0
      try clear c12
      try clear c12b0
      try clear c13
      try clear c13b0
      try clear p14
      try clear q14
      try clear hx14
      try clear hf14
      try clear hx14_0
      try clear p1
      try clear p14
      try clear p2
      try clear p6
      try clear q1
      try clear q14
      obtain ⟨x0_2, x9_2, rfl, HA, HK2, HO_9, HB⟩ := hrel
      cases gk with
      | zero => exact absurd HA.out (by simp [spec_l09Counts.l0])
      | succ k2 =>
       have H := HA.out
       clear HA
       simp only [spec_l09Counts.l0] at H
       by_cases c17 : x0_2 > 0
       ·rw [if_pos c17] at H
        have c17b0 : decide (0 < x0_2) = true := decide_eq_true c17
        clear c17
        obtain ⟨ji18, hji18⟩ : ∃ j_ : Int, (wrap64 (a2 + 1)) = j_ := ⟨_, rfl⟩
        replace H : (if 0 ≤ (ji18) then (if (ji18 : Int).toNat ≤ 35184372088832 then (spec_l09Counts.l1 k2 x0_2 a2 a3 x9_2 (List.replicate (ji18 : Int).toNat 0) 0) else (none)) else (none)) = some r := by first | (rw [hji18] at H; exact H) | (simp only [hji18] at H ⊢; exact H)
        have hji18w : (IntKind.i64.wrap (a2 + 1)) = ji18 := (i64_w _).trans hji18
        try clear hji5
        try clear hji5w
        by_cases c19 : 0 ≤ (ji18)
        ·rw [if_pos c19] at H
         have c19b0 := eq_true c19
         have c19b1 : decide (0 ≤ (ji18)) = true := decide_eq_true c19
         clear c19
         by_cases c20 : (ji18 : Int).toNat ≤ 35184372088832
         ·rw [if_pos c20] at H
          have c20b0 := eq_true c20
          have c20b1 : decide ((ji18 : Int).toNat ≤ 35184372088832) = true := decide_eq_true c20
          clear c20
          obtain ⟨y907, hy907⟩ : ∃ y_ : List Int, y_ = (List.replicate (ji18 : Int).toNat 0) := ⟨_, rfl⟩
          replace H : (spec_l09Counts.l1 k2 x0_2 a2 a3 x9_2 y907 0) = some r := by have hq_ := hy907; exact ZqH
          have Ny907 := Aside0.mk hy907
          clear hy907
          have H' := Aside0.mk H
          clear H
          go_wp2_with (first | ((with_reducible refine gate_dst (N := 27) rfl ?_); refine Kd.R_make (Kd.int .i64) _ 2 rfl (N := 27) rfl 24 _ _ rfl ji18 rfl rfl Try.underlying24 (.int .i64 0) 8 info2 rfl (by decide) (by omega) 0 (ok := fun _ => True) (okp := fun _ => True) rfl (fun _ hk => hk) trivial (of_decide_eq_true (by first | (with_reducible assumption) | assumption)) (Nat.le_trans (Nat.mul_le_mul_right _ (of_decide_eq_true (by first | (with_reducible assumption) | assumption) : ji18.toNat ≤ 35184372088832)) (by omega)) (Below.refl _ _) (Nat.le_refl _) ?_; intro v908 w21 ho22 hb hg_ hnew_; clear hg_ hnew_; (first | rw [← Ny907.out] at ho22 | (simp only [Int.reduceToNat] at ho22; rw [← Ny907.out] at ho22)); have n0_ := Aside0.mk (Kd.R_elder' (ZR HO_9) (Kd.R_base ho22) hb); have n1_ := Aside0.mk (Kd.R_lower (Kd.R_new' ho22 (Kd.R_lt (ZR HO_9))) (below_size ZB)); have n2_ := Aside0.mk (below_step ZB hb); clear HO_9 HB; have HO_9 := n0_; have HO909 := n1_; have HB := n2_; clear n0_ n1_ n2_; clear hb ho22))
          go_loopg [11] k2 (fun kq v11 w' => ∃ (x10_3 : List Int) (x11_3 : Int), v11 = .int .i64 x11_3 ∧ Aside0 (spec_l09Counts.l1 kq x0_2 a2 a3 x9_2 x10_3 x11_3 = some r) ∧ Aside0 (kq ≤ k2) ∧ Aside0 (Kd.R (Kd.int .i64) 2 w' w.heap.size (fun k_ => some k_ ≠ (v908 : Value).ownBlock) u9 x9_2) ∧ Aside0 (Kd.R (Kd.int .i64) 2 w' w.heap.size (fun k_ => some k_ ≠ (u9 : Value).ownBlock) v908 x10_3) ∧ Aside0 (Below w.heap.size w w'))
          case atStart => exact ⟨(y907), (0), (ZqS), H', ⟨Nat.le_refl _⟩, ⟨by refine ZQ ?_; exact Kd.R_mono HO_9.out (fun _ hk => hk.2)⟩, ⟨by refine ZQ ?_; exact Kd.R_mono HO909.out (fun _ hk => hk.2)⟩, ⟨ZB⟩⟩
          case round =>
           clear H'
           try clear c1
           try clear p1
           try clear q1
           try clear hx1
           try clear c2
           try clear p2
           try clear c6
           try clear c6b0
           try clear c6b1
           try clear p6
           try clear c7
           try clear c7b0
           try clear c7b1
           try clear c11
           try clear c11b0
           try clear c12
           try clear c12b0
           try clear c13
           try clear c13b0
           try clear p14
           try clear q14
           try clear hx14
           try clear hf14
           try clear c17
           try clear c17b0
           try clear c19
           try clear c19b0
           try clear c19b1
           try clear c20
           try clear c20b0
           try clear c20b1
           try clear c22
           try clear hx14_0
           try clear p1
           try clear p14
           try clear p2
           try clear p6
           try clear q1
           try clear q14
           obtain ⟨x10_3, x11_3, rfl, HA, HK3, HO_9, HO_10, HB⟩ := hrel
           cases gk with
           | zero => exact absurd HA.out (by simp [spec_l09Counts.l1])
           | succ k3 =>
            have H := HA.out
            clear HA
            simp only [spec_l09Counts.l1] at H
            by_cases c23 : x11_3 ≤ a2
            ·rw [if_pos c23] at H
             have c23b0 : decide (x11_3 ≤ a2) = true := decide_eq_true c23
             clear c23
             have HC24 := Aside0.mk H
             clear H
             go_upto_if 34 with (fail)
             go_cut [] (fun wc => ∃ (kq : Nat) (x10_23 : List Int), Aside0 (spec_l09Counts.j3 kq x0_2 a2 a3 x9_2 x10_23 x11_3 = some r) ∧ Aside0 (kq ≤ k3) ∧ Aside0 (Kd.R (Kd.int .i64) 2 wc w.heap.size (fun k_ => some k_ ≠ (v908 : Value).ownBlock) u9 x9_2) ∧ Aside0 (Kd.R (Kd.int .i64) 2 wc w.heap.size (fun k_ => some k_ ≠ (u9 : Value).ownBlock) v908 x10_23) ∧ Aside0 (Below w.heap.size w wc))
             case first =>
              have H := HC24.out
              clear HC24
              by_cases c25 : a3 = true
              ·subst c25
               rw [if_pos rfl] at H
               have H' := Aside0.mk H
               clear H
               go_wp2
               go_meet
               case rel => exact ⟨_, (x10_3), H', ⟨by have := HJ7.out; have := HK2.out; have := HK3.out; first | omega | exact Nat.le_refl _⟩, ⟨ZR HO_9⟩, ⟨ZR HO_10⟩, ⟨ZB⟩⟩
              ·replace c25 := Bool.eq_false_iff.mpr c25
               subst c25
               rw [if_neg (show ¬ (false = true) by decide)] at H
               by_cases c26 : 0 ≤ x11_3
               ·rw [if_pos c26] at H
                have c26b0 : decide (0 ≤ x11_3) = true := decide_eq_true c26
                clear c26
                (first | rw [c26b0] | (simp only [i64_w, i32_w]; rw [c26b0]) | skip)
                by_cases c27 : x11_3 < (x10_3.length : Int)
                ·rw [if_pos c27] at H
                 have c27b0 : decide (x11_3 < (x10_3.length : Int)) = true := decide_eq_true c27
                 clear c27
                 by_cases c28 : x11_3 < (x9_2.length : Int)
                 ·rw [if_pos c28] at H
                  have c28b0 : decide (x11_3 < (x9_2.length : Int)) = true := decide_eq_true c28
                  clear c28
                  obtain ⟨y912, hy912⟩ : ∃ y_ : List Int, y_ = (x10_3.set (x11_3 : Int).toNat (wrap64 ((rd x10_3 x11_3) + (rd x9_2 x11_3)))) := ⟨_, rfl⟩
                  replace H : (spec_l09Counts.j3 k3 x0_2 a2 false x9_2 y912 x11_3) = some r := by have hq_ := hy912; exact ZqH
                  have Ny912 := Aside0.mk hy912
                  clear hy912
                  have H' := Aside0.mk H
                  clear H
                  try go_wp2
                  have n0_ := Aside0.mk (Kd.R_drew HO_9.out)
                  have n1_ := Aside0.mk (Kd.R_drew HO_10.out)
                  have n2_ := Aside0.mk (below_drew1 HB.out)
                  clear HO_9
                  clear HO_10
                  clear HB
                  have HO_9 := n0_
                  have HO_10 := n1_
                  have HB := n2_
                  clear n0_ n1_ n2_
                  obtain ⟨Ao31, co31, eo31⟩ := Kd.R_slice HO_10.out
                  (first | subst eo31 | (injection eo31 with f1_ f2_ f3_; have f4_ := f1_.symm; have f5_ := f3_.symm; clear f1_ f2_ f3_; subst f4_; subst f5_))
                  have p910 : 0 ≤ (x11_3 : Int) := of_decide_eq_true (by first | (with_reducible assumption) | assumption)
                  have q910 : x11_3 < (x10_3.length : Int) := of_decide_eq_true (by first | (with_reducible assumption) | assumption)
                  obtain ⟨ad910, e910, hx910_0⟩ := Kd.at_int (Kd.R_reads' HO_10.out).2.2 x11_3 p910 q910
                  cases e910
                  replace p910 := eq_true p910
                  replace q910 := eq_true q910
                  obtain ⟨Ao32, co32, eo32⟩ := Kd.R_slice HO_9.out
                  (first | subst eo32 | (injection eo32 with f1_ f2_ f3_; have f4_ := f1_.symm; have f5_ := f3_.symm; clear f1_ f2_ f3_; subst f4_; subst f5_))
                  have p911 : 0 ≤ (x11_3 : Int) := of_decide_eq_true (by first | (with_reducible assumption) | assumption)
                  have q911 : x11_3 < (x9_2.length : Int) := of_decide_eq_true (by first | (with_reducible assumption) | assumption)
                  obtain ⟨ad911, e911, hx911_0⟩ := Kd.at_int (Kd.R_reads' HO_9.out).2.2 x11_3 p911 q911
                  cases e911
                  replace p911 := eq_true p911
                  replace q911 := eq_true q911
                  have p29 : 0 ≤ (x11_3 : Int) := of_decide_eq_true (by first | (with_reducible assumption) | assumption)
                  have q29 : (x11_3 : Int) < ((x10_3.length : Int) : Int) := of_decide_eq_true (by first | (with_reducible assumption) | assumption)
                  obtain ⟨go29, co29, eo29, gb29, gl29, cl29, HG29⟩ := Kd.R_form HO_10.out (by omega)
                  (first | cases eo29 | (injection eo29 with ea_ en_ ec_; (first | subst ea_ | (injection ea_ with ea_; subst ea_)); subst ec_; clear en_))
                  have GB29 := Aside0.mk gb29
                  have GG29 := Aside0.mk HG29
                  clear gb29 gl29 HG29
                  (first | simp only [add_plain] at hx910_0 | skip)
                  obtain ⟨hx29_0, hf29_0⟩ := Kd.R_celln 0 HO_10.out (x11_3 : Int) p29 q29
                  replace p29 := eq_true p29
                  replace q29 := eq_true q29
                  have HP33 := Kd.R_putn HO_10.out (x11_3 : Int) (wrap64 ((rd x10_3 x11_3) + (rd x9_2 x11_3)))
                  rw [← Ny912.out] at HP33
                  have HQ33 := Aside0.mk HP33
                  clear HP33
                  refine start_ (n := 13) (S := fun w' => w'.cell? ⟨go29, (x11_3).toNat, none⟩ = some (.int .i64 (rd x10_3 x11_3)) ∧ w'.cell? (ad911.add (x11_3).toNat) = some (.int .i64 (rd x9_2 x11_3))) (ds := [12]) #[false, false, false, false, false, false, false, false, false, false, false, false, false] (by kernel_rfl) rfl rfl ⟨hx910_0, hx911_0⟩ (fun hHeld => ?_); refine with_tabW spec_l09Counts.tab11 spec_l09Counts.bits11 (fun HT_ HW_ => ?_)
                  generalize wr.drew = w30 at HO_9 HO_10 HB GG29 HQ33 hf29_0 hx29_0 hx910_0 hx911_0 hHeld ⊢
                  refine Zpt 0 (some 35) (h := ?_)
                  refine Zpt 1 (some 36) (h := ?_)
                  refine Zpt 2 (some 37) (h := ?_)
                  refine Zpt 3 (some 38) (h := ?_)
                  refine Zpt 4 (some 39) (h := ?_)
                  refine Zpt 6 (some 41) (h := ?_)
                  refine Zpt 7 (some 42) (h := ?_)
                  refine Zpt 8 (some 43) (h := ?_)
                  refine ZtW2 5 (some 40) hHeld (h := ?_)
                  refine ZtW2 9 (some 44) hHeld (h := ?_)
                  refine Zpt 10 (some 45) (h := ?_)
                  refine Zpt 11 (some 46) (h := ?_)
                  refine last_ (i := 12) (N := none) #[true, true, true, true, true, true, true, true, true, true, true, true, true] rfl rfl (one_of HT_.out (by kernel_rfl)) (by decide) (fun K hK => ?_)
                  refine skip_ (w1 := ?_) (by rfl) rfl ?_ ?_
                  rotate_left
                  ·go_simp
                   rfl
                  refine hK.out _ _ ?_
                  clear hK K
                  refine done_ (done_of HT_.out (by kernel_rfl)) ?_
                  try go_wp2
                  go_meet
                  case rel => exact ⟨_, (y912), H', ⟨by have := HJ7.out; have := HK2.out; have := HK3.out; first | omega | exact Nat.le_refl _⟩, ⟨by refine ZQ ?_; exact Kd.R_mono (Kd.R_far (p := ⟨go29, (x11_3 : Int).toNat, none⟩) (Kd.R_mono HO_9.out (fun k_ hk => (⟨hk, fun e_ => hk (by rw [e_]; rfl)⟩ : _ ∧ k_ ≠ go29))) (fun _ hk => hk.2) (.int .i64 (wrap64 ((rd x10_3 x11_3) + (rd x9_2 x11_3))))) (fun _ hk => hk.1)⟩, ⟨ZR HQ33⟩, ⟨by exact Zq34⟩⟩
                 ·rw [if_neg c28] at H
                  exact absurd H (by simp)
                ·rw [if_neg c27] at H
                 exact absurd H (by simp)
               ·rw [if_neg c26] at H
                exact absurd H (by simp)
             case rest =>
              clear HC24
              try clear c1
              try clear p1
              try clear q1
              try clear hx1
              try clear c2
              try clear p2
              try clear q2
              try clear hx2
              try clear c6
              try clear c6b0
              try clear c6b1
              try clear p6
              try clear c7
              try clear c7b0
              try clear c7b1
              try clear p9
              try clear q9
              try clear hx9
              try clear c11
              try clear c11b0
              try clear c12
              try clear c12b0
              try clear c13
              try clear c13b0
              try clear p14
              try clear q14
              try clear hx14
              try clear hf14
              try clear c17
              try clear c17b0
              try clear c19
              try clear c19b0
              try clear c19b1
              try clear c20
              try clear c20b0
              try clear c20b1
              try clear c22
              try clear c23
              try clear c23b0
              try clear c25
              try clear c26
              try clear c26b0
              try clear c27
              try clear c27b0
              try clear c28
              try clear c28b0
              try clear p29
              try clear q29
              try clear hx29
              try clear hf29
              try clear hx14_0
              try clear hx29_0
              try clear hx910_0
              try clear hx911_0
              try clear p1
              try clear p14
              try clear p2
              try clear p29
              try clear p6
              try clear p910
              try clear p911
              try clear q1
              try clear q14
              try clear q29
              try clear q910
              try clear q911
              obtain ⟨kq, x10_23, HA, HJ23, HO_9, HO_10, HB⟩ := hcut
              cases kq with
              | zero => exact absurd HA.out (by simp [spec_l09Counts.j3])
              | succ kj23 =>
               have H := HA.out
               clear HA
               simp only [spec_l09Counts.j3] at H
               by_cases c34 : x11_3 > 0
               ·rw [if_pos c34] at H
                have c34b0 : decide (0 < x11_3) = true := decide_eq_true c34
                clear c34
                obtain ⟨ji35, hji35⟩ : ∃ j_ : Int, (wrap64 (x11_3 - 1)) = j_ := ⟨_, rfl⟩
                replace H : (if 0 ≤ (ji35) then (if (ji35) < (x10_23.length : Int) then (if 0 ≤ x11_3 then (if x11_3 < (x9_2.length : Int) then ((some (x10_23.set ((ji35) : Int).toNat (wrap64 ((rd x10_23 (ji35)) + (rd x9_2 x11_3))) : List Int)).bind fun y915 => (if x11_3 < a2 then (if 0 ≤ (wrap64 (x11_3 + 1)) then (if (wrap64 (x11_3 + 1)) < (x10_23.length : Int) then (spec_l09Counts.l1 kj23 x0_2 a2 a3 x9_2 (y915.set ((wrap64 (x11_3 + 1)) : Int).toNat (wrap64 ((rd y915 (wrap64 (x11_3 + 1))) + (rd x9_2 x11_3)))) (wrap64 (x11_3 + 1))) else (none)) else (none)) else (spec_l09Counts.l1 kj23 x0_2 a2 a3 x9_2 y915 (wrap64 (x11_3 + 1))))) else (none)) else (none)) else (none)) else (none)) = some r := by first | (rw [hji35] at H; exact H) | (simp only [hji35] at H ⊢; exact H)
                have hji35w : (IntKind.i64.wrap (x11_3 - 1)) = ji35 := (i64_w _).trans hji35
                by_cases c36 : 0 ≤ (ji35)
                ·rw [if_pos c36] at H
                 have c36b0 : decide (0 ≤ (ji35)) = true := decide_eq_true c36
                 clear c36
                 by_cases c37 : (ji35) < (x10_23.length : Int)
                 ·rw [if_pos c37] at H
                  have c37b0 : decide ((ji35) < (x10_23.length : Int)) = true := decide_eq_true c37
                  clear c37
                  by_cases c38 : 0 ≤ x11_3
                  ·rw [if_pos c38] at H
                   have c38b0 : decide (0 ≤ x11_3) = true := decide_eq_true c38
                   clear c38
                   by_cases c39 : x11_3 < (x9_2.length : Int)
                   ·rw [if_pos c39] at H
                    have c39b0 : decide (x11_3 < (x9_2.length : Int)) = true := decide_eq_true c39
                    clear c39
                    obtain ⟨y915, hy915⟩ : ∃ y_ : List Int, y_ = (x10_23.set ((ji35) : Int).toNat (wrap64 ((rd x10_23 (ji35)) + (rd x9_2 x11_3)))) := ⟨_, rfl⟩
                    replace H : (if x11_3 < a2 then (if 0 ≤ (wrap64 (x11_3 + 1)) then (if (wrap64 (x11_3 + 1)) < (x10_23.length : Int) then (spec_l09Counts.l1 kj23 x0_2 a2 a3 x9_2 (y915.set ((wrap64 (x11_3 + 1)) : Int).toNat (wrap64 ((rd y915 (wrap64 (x11_3 + 1))) + (rd x9_2 x11_3)))) (wrap64 (x11_3 + 1))) else (none)) else (none)) else (spec_l09Counts.l1 kj23 x0_2 a2 a3 x9_2 y915 (wrap64 (x11_3 + 1)))) = some r := by have hq_ := hy915; exact ZqH
                    have Ny915 := Aside0.mk hy915
                    clear hy915
                    by_cases c41 : x11_3 < a2
                    ·rw [if_pos c41] at H
                     have c41b0 : decide (x11_3 < a2) = true := decide_eq_true c41
                     clear c41
                     obtain ⟨ji42, hji42⟩ : ∃ j_ : Int, (wrap64 (x11_3 + 1)) = j_ := ⟨_, rfl⟩
                     replace H : (if 0 ≤ (ji42) then (if (ji42) < (x10_23.length : Int) then (spec_l09Counts.l1 kj23 x0_2 a2 a3 x9_2 (y915.set ((ji42) : Int).toNat (wrap64 ((rd y915 (ji42)) + (rd x9_2 x11_3)))) ji42) else (none)) else (none)) = some r := by first | (rw [hji42] at H; exact H) | (simp only [hji42] at H ⊢; exact H)
                     have hji42w : (IntKind.i64.wrap (x11_3 + 1)) = ji42 := (i64_w _).trans hji42
                     by_cases c43 : 0 ≤ (ji42)
                     ·rw [if_pos c43] at H
                      have c43b0 : decide (0 ≤ (ji42)) = true := decide_eq_true c43
                      clear c43
                      by_cases c44 : (ji42) < (x10_23.length : Int)
                      ·rw [if_pos c44] at H
                       have c44b0 : decide ((ji42) < (x10_23.length : Int)) = true := decide_eq_true c44
                       clear c44
                       obtain ⟨y918, hy918⟩ : ∃ y_ : List Int, y_ = (y915.set ((ji42) : Int).toNat (wrap64 ((rd y915 (ji42)) + (rd x9_2 x11_3)))) := ⟨_, rfl⟩
                       replace H : (spec_l09Counts.l1 kj23 x0_2 a2 a3 x9_2 y918 ji42) = some r := by have hq_ := hy918; exact ZqH
                       have Ny918 := Aside0.mk hy918
                       clear hy918
                       have H' := Aside0.mk H
                       clear H
                       try go_wp2
                       have n0_ := Aside0.mk (Kd.R_drew HO_9.out)
                       have n1_ := Aside0.mk (Kd.R_drew HO_10.out)
                       have n2_ := Aside0.mk (below_drew1 HB.out)
                       clear HO_9
                       clear HO_10
                       clear HB
                       have HO_9 := n0_
                       have HO_10 := n1_
                       have HB := n2_
                       clear n0_ n1_ n2_
                       obtain ⟨Ao47, co47, eo47⟩ := Kd.R_slice HO_10.out
                       (first | subst eo47 | (injection eo47 with f1_ f2_ f3_; have f4_ := f1_.symm; have f5_ := f3_.symm; clear f1_ f2_ f3_; subst f4_; subst f5_))
                       have p913 : 0 ≤ ((ji35) : Int) := of_decide_eq_true (by first | (with_reducible assumption) | assumption)
                       have q913 : (ji35) < (x10_23.length : Int) := of_decide_eq_true (by first | (with_reducible assumption) | assumption)
                       obtain ⟨ad913, e913, hx913_0⟩ := Kd.at_int (Kd.R_reads' HO_10.out).2.2 (ji35) p913 q913
                       cases e913
                       replace p913 := eq_true p913
                       replace q913 := eq_true q913
                       obtain ⟨Ao48, co48, eo48⟩ := Kd.R_slice HO_9.out
                       (first | subst eo48 | (injection eo48 with f1_ f2_ f3_; have f4_ := f1_.symm; have f5_ := f3_.symm; clear f1_ f2_ f3_; subst f4_; subst f5_))
                       have p914 : 0 ≤ (x11_3 : Int) := of_decide_eq_true (by first | (with_reducible assumption) | assumption)
                       have q914 : x11_3 < (x9_2.length : Int) := of_decide_eq_true (by first | (with_reducible assumption) | assumption)
                       obtain ⟨ad914, e914, hx914_0⟩ := Kd.at_int (Kd.R_reads' HO_9.out).2.2 x11_3 p914 q914
                       cases e914
                       replace p914 := eq_true p914
                       replace q914 := eq_true q914
                       have p40 : 0 ≤ ((ji35) : Int) := of_decide_eq_true (by first | (with_reducible assumption) | assumption)
                       have q40 : ((ji35) : Int) < ((x10_23.length : Int) : Int) := of_decide_eq_true (by first | (with_reducible assumption) | assumption)
                       obtain ⟨go40, co40, eo40, gb40, gl40, cl40, HG40⟩ := Kd.R_form HO_10.out (by omega)
                       (first | cases eo40 | (injection eo40 with ea_ en_ ec_; (first | subst ea_ | (injection ea_ with ea_; subst ea_)); subst ec_; clear en_))
                       have GB40 := Aside0.mk gb40
                       have GG40 := Aside0.mk HG40
                       clear gb40 gl40 HG40
                       (first | simp only [add_plain] at hx913_0 | skip)
                       obtain ⟨hx40_0, hf40_0⟩ := Kd.R_celln 0 HO_10.out ((ji35) : Int) p40 q40
                       replace p40 := eq_true p40
                       replace q40 := eq_true q40
                       have HP49 := Kd.R_putn HO_10.out ((ji35) : Int) (wrap64 ((rd x10_23 (ji35)) + (rd x9_2 x11_3)))
                       rw [← Ny915.out] at HP49
                       have HQ49 := Aside0.mk HP49
                       clear HP49
                       refine start_ (n := 15) (S := fun w' => w'.cell? ⟨go40, ((ji35)).toNat, none⟩ = some (.int .i64 (rd x10_23 (ji35))) ∧ w'.cell? (ad914.add (x11_3).toNat) = some (.int .i64 (rd x9_2 x11_3))) (ds := [14]) #[false, false, false, false, false, false, false, false, false, false, false, false, false, false, false] (by kernel_rfl) rfl rfl ⟨hx913_0, hx914_0⟩ (fun hHeld => ?_); refine with_tabW spec_l09Counts.tab13 spec_l09Counts.bits13 (fun HT_ HW_ => ?_)
                       generalize wc.drew = w46 at HO_9 HO_10 HB GG40 HQ49 hf40_0 hx40_0 hx913_0 hx914_0 hHeld ⊢
                       refine Zpt 0 (some 49) (h := ?_)
                       refine Zpt 1 (some 50) (h := ?_)
                       refine Zpt 2 (some 51) (h := ?_)
                       refine Zpt 3 (some 52) (h := ?_)
                       refine Zpt 4 (some 53) (h := ?_)
                       refine Zpt 5 (some 54) (h := ?_)
                       refine Zpt 6 (some 55) (h := ?_)
                       refine Zpt 8 (some 57) (h := ?_)
                       refine Zpt 9 (some 58) (h := ?_)
                       refine Zpt 10 (some 59) (h := ?_)
                       refine ZtW2 7 (some 56) hHeld (h := ?_)
                       refine ZtW2 11 (some 60) hHeld (h := ?_)
                       refine Zpt 12 (some 61) (h := ?_)
                       refine Zpt 13 (some 62) (h := ?_)
                       refine last_ (i := 14) (N := none) #[true, true, true, true, true, true, true, true, true, true, true, true, true, true, true] rfl rfl (one_of HT_.out (by kernel_rfl)) (by decide) (fun K hK => ?_)
                       refine skip_ (w1 := ?_) (by rfl) rfl ?_ ?_
                       rotate_left
                       ·go_simp
                        rfl
                       refine hK.out _ _ ?_
                       clear hK K
                       refine done_ (done_of HT_.out (by kernel_rfl)) ?_
                       try go_wp2
                       have n0_ : Aside0 (Kd.R (Kd.int .i64) 2 (w46.setCell ⟨go40, ((ji35) : Int).toNat, none⟩ (.int .i64 (wrap64 ((rd x10_23 (ji35)) + (rd x9_2 x11_3))))) w.heap.size (fun k_ => some k_ ≠ (.slice (some ⟨go40, 0, none⟩) x10_23.length co47 : Value).ownBlock) (.slice (some ad914) x9_2.length co48) x9_2) := ⟨by refine ZQ ?_; exact Kd.R_mono (Kd.R_far (p := ⟨go40, ((ji35) : Int).toNat, none⟩) (Kd.R_mono HO_9.out (fun k_ hk => (⟨hk, fun e_ => hk (by rw [e_]; rfl)⟩ : _ ∧ k_ ≠ go40))) (fun _ hk => hk.2) (.int .i64 (wrap64 ((rd x10_23 (ji35)) + (rd x9_2 x11_3))))) (fun _ hk => hk.1)⟩
                       have n1_ : Aside0 (Kd.R (Kd.int .i64) 2 (w46.setCell ⟨go40, ((ji35) : Int).toNat, none⟩ (.int .i64 (wrap64 ((rd x10_23 (ji35)) + (rd x9_2 x11_3))))) w.heap.size (fun k_ => some k_ ≠ (.slice (some ad914) x9_2.length co48 : Value).ownBlock) (.slice (some ⟨go40, 0, none⟩) x10_23.length co47) y915) := ⟨ZR HQ49⟩
                       have n2_ : Aside0 (Below w.heap.size w (w46.setCell ⟨go40, ((ji35) : Int).toNat, none⟩ (.int .i64 (wrap64 ((rd x10_23 (ji35)) + (rd x9_2 x11_3)))))) := ⟨by exact Zq35⟩
                       (try clear HO_9)
                       (try clear HO_10)
                       (try clear HB)
                       generalize (w46.setCell ⟨go40, ((ji35) : Int).toNat, none⟩ (.int .i64 (wrap64 ((rd x10_23 (ji35)) + (rd x9_2 x11_3))))) = w50 at n0_ n1_ n2_ ⊢
                       have HO_9 := n0_
                       have HO_10 := n1_
                       have HB := n2_
                       clear n0_ n1_ n2_
                       have n0_ := Aside0.mk (Kd.R_drew HO_9.out)
                       have n1_ := Aside0.mk (Kd.R_drew HO_10.out)
                       have n2_ := Aside0.mk (below_drew1 HB.out)
                       clear HO_9
                       clear HO_10
                       clear HB
                       have HO_9 := n0_
                       have HO_10 := n1_
                       have HB := n2_
                       clear n0_ n1_ n2_
                       have p916 : 0 ≤ ((ji42) : Int) := of_decide_eq_true (by first | (with_reducible assumption) | assumption)
                       have q916 : (ji42) < (y915.length : Int) := (by have h_ : ((ji42) : Int) < ((x10_23.length : Int) : Int) := of_decide_eq_true (by first | (with_reducible assumption) | assumption); first | (have e_ := (Kd.R_reads' HO_10.out).1; omega) | simpa only [Ny915.out, List.length_set] using h_)
                       have ql916 : (((ji42) : Int) < ((x10_23.length : Int) : Int)) = True := eq_true (of_decide_eq_true (by first | (with_reducible assumption) | assumption))
                       obtain ⟨ad916, e916, hx916_0⟩ := Kd.at_int (Kd.R_reads' HO_10.out).2.2 (ji42) p916 q916
                       obtain rfl : (⟨go40, 0, none⟩ : Addr) = ad916 := (by injection e916)
                       (first | simp only [add_plain] at hx916_0 | simp only [add_at] at hx916_0 | simp only [Addr.add, Nat.zero_add] at hx916_0 | skip)
                       replace p916 := eq_true p916
                       replace q916 := eq_true q916
                       have p917 : 0 ≤ (x11_3 : Int) := of_decide_eq_true (by first | (with_reducible assumption) | assumption)
                       have q917 : x11_3 < (x9_2.length : Int) := of_decide_eq_true (by first | (with_reducible assumption) | assumption)
                       obtain ⟨ad917, e917, hx917_0⟩ := Kd.at_int (Kd.R_reads' HO_9.out).2.2 x11_3 p917 q917
                       obtain rfl : ad914 = ad917 := (by injection e917)
                       replace p917 := eq_true p917
                       replace q917 := eq_true q917
                       have p45 : 0 ≤ ((ji42) : Int) := of_decide_eq_true (by first | (with_reducible assumption) | assumption)
                       have q45 : ((ji42) : Int) < ((x10_23.length : Int) : Int) := of_decide_eq_true (by first | (with_reducible assumption) | assumption)
                       obtain ⟨hx45_0, hf45_0⟩ := Kd.R_celln 0 HO_10.out ((ji42) : Int) p45 q45
                       replace p45 := eq_true p45
                       replace q45 := eq_true q45
                       have HP52 := Kd.R_putn HO_10.out ((ji42) : Int) (wrap64 ((rd y915 (ji42)) + (rd x9_2 x11_3)))
                       rw [← Ny918.out] at HP52
                       have HQ52 := Aside0.mk HP52
                       clear HP52
                       refine start_ (n := 15) (S := fun w' => w'.cell? ⟨go40, ((ji42)).toNat, none⟩ = some (.int .i64 (rd y915 (ji42))) ∧ w'.cell? (ad914.add (x11_3).toNat) = some (.int .i64 (rd x9_2 x11_3))) (ds := [14]) #[false, false, false, false, false, false, false, false, false, false, false, false, false, false, false] (by kernel_rfl) rfl rfl ⟨hx916_0, hx917_0⟩ (fun hHeld => ?_); refine with_tabW spec_l09Counts.tab15 spec_l09Counts.bits15 (fun HT_ HW_ => ?_)
                       generalize w50.drew = w51 at HO_9 HO_10 HB HQ49 HQ52 hf45_0 hx45_0 hx916_0 hx917_0 hHeld ⊢
                       refine Zpt 0 (some 66) (h := ?_)
                       refine Zpt 1 (some 67) (h := ?_)
                       refine Zpt 2 (some 68) (h := ?_)
                       refine Zpt 3 (some 69) (h := ?_)
                       refine Zpt 4 (some 70) (h := ?_)
                       refine Zpt 5 (some 71) (h := ?_)
                       refine Zpt 6 (some 72) (h := ?_)
                       refine Zpt 8 (some 74) (h := ?_)
                       refine Zpt 9 (some 75) (h := ?_)
                       refine Zpt 10 (some 76) (h := ?_)
                       refine ZtW2 7 (some 73) hHeld (h := ?_)
                       refine ZtW2 11 (some 77) hHeld (h := ?_)
                       refine Zpt 12 (some 78) (h := ?_)
                       refine Zpt 13 (some 79) (h := ?_)
                       refine last_ (i := 14) (N := none) #[true, true, true, true, true, true, true, true, true, true, true, true, true, true, true] rfl rfl (one_of HT_.out (by kernel_rfl)) (by decide) (fun K hK => ?_)
                       refine skip_ (w1 := ?_) (by rfl) rfl ?_ ?_
                       rotate_left
                       ·go_simp
                        rfl
                       refine hK.out _ _ ?_
                       clear hK K
                       refine done_ (done_of HT_.out (by kernel_rfl)) ?_
                       try go_wp2
                       go_roundg kj23
                       case measure => have := HJ7.out; have := HK2.out; have := HK3.out; have := HJ23.out; omega
                       case rel => exact ⟨(y918), (ji42), (by first | rfl | (simp; done) | (simp only [← hji42] <;> (first | rfl | simp)) | (simp [*]; done)), H', ⟨by have := HJ7.out; have := HK2.out; have := HK3.out; have := HJ23.out; omega⟩, ⟨by refine ZQ ?_; exact Kd.R_mono (Kd.R_far (p := ⟨go40, ((ji42) : Int).toNat, none⟩) (Kd.R_mono HO_9.out (fun k_ hk => (⟨hk, fun e_ => hk (by rw [e_]; rfl)⟩ : _ ∧ k_ ≠ go40))) (fun _ hk => hk.2) (.int .i64 (wrap64 ((rd y915 (ji42)) + (rd x9_2 x11_3))))) (fun _ hk => hk.1)⟩, ⟨ZR HQ52⟩, ⟨by exact Zq35⟩⟩
                      ·rw [if_neg c44] at H
                       exact absurd H (by simp)
                     ·rw [if_neg c43] at H
                      exact absurd H (by simp)
                    ·rw [if_neg c41] at H
                     have c41b0 : decide (x11_3 < a2) = false := decide_eq_false c41
                     clear c41
                     have H' := Aside0.mk H
                     clear H
                     try go_wp2
                     have n0_ := Aside0.mk (Kd.R_drew HO_9.out)
                     have n1_ := Aside0.mk (Kd.R_drew HO_10.out)
                     have n2_ := Aside0.mk (below_drew1 HB.out)
                     clear HO_9
                     clear HO_10
                     clear HB
                     have HO_9 := n0_
                     have HO_10 := n1_
                     have HB := n2_
                     clear n0_ n1_ n2_
                     obtain ⟨Ao54, co54, eo54⟩ := Kd.R_slice HO_10.out
                     (first | subst eo54 | (injection eo54 with f1_ f2_ f3_; have f4_ := f1_.symm; have f5_ := f3_.symm; clear f1_ f2_ f3_; subst f4_; subst f5_))
                     have p913 : 0 ≤ ((ji35) : Int) := of_decide_eq_true (by first | (with_reducible assumption) | assumption)
                     have q913 : (ji35) < (x10_23.length : Int) := of_decide_eq_true (by first | (with_reducible assumption) | assumption)
                     obtain ⟨ad913, e913, hx913_0⟩ := Kd.at_int (Kd.R_reads' HO_10.out).2.2 (ji35) p913 q913
                     cases e913
                     replace p913 := eq_true p913
                     replace q913 := eq_true q913
                     obtain ⟨Ao55, co55, eo55⟩ := Kd.R_slice HO_9.out
                     (first | subst eo55 | (injection eo55 with f1_ f2_ f3_; have f4_ := f1_.symm; have f5_ := f3_.symm; clear f1_ f2_ f3_; subst f4_; subst f5_))
                     have p914 : 0 ≤ (x11_3 : Int) := of_decide_eq_true (by first | (with_reducible assumption) | assumption)
                     have q914 : x11_3 < (x9_2.length : Int) := of_decide_eq_true (by first | (with_reducible assumption) | assumption)
                     obtain ⟨ad914, e914, hx914_0⟩ := Kd.at_int (Kd.R_reads' HO_9.out).2.2 x11_3 p914 q914
                     cases e914
                     replace p914 := eq_true p914
                     replace q914 := eq_true q914
                     have p40 : 0 ≤ ((ji35) : Int) := of_decide_eq_true (by first | (with_reducible assumption) | assumption)
                     have q40 : ((ji35) : Int) < ((x10_23.length : Int) : Int) := of_decide_eq_true (by first | (with_reducible assumption) | assumption)
                     obtain ⟨go40, co40, eo40, gb40, gl40, cl40, HG40⟩ := Kd.R_form HO_10.out (by omega)
                     (first | cases eo40 | (injection eo40 with ea_ en_ ec_; (first | subst ea_ | (injection ea_ with ea_; subst ea_)); subst ec_; clear en_))
                     have GB40 := Aside0.mk gb40
                     have GG40 := Aside0.mk HG40
                     clear gb40 gl40 HG40
                     (first | simp only [add_plain] at hx913_0 | skip)
                     obtain ⟨hx40_0, hf40_0⟩ := Kd.R_celln 0 HO_10.out ((ji35) : Int) p40 q40
                     replace p40 := eq_true p40
                     replace q40 := eq_true q40
                     have HP56 := Kd.R_putn HO_10.out ((ji35) : Int) (wrap64 ((rd x10_23 (ji35)) + (rd x9_2 x11_3)))
                     rw [← Ny915.out] at HP56
                     have HQ56 := Aside0.mk HP56
                     clear HP56
                     refine start_ (n := 15) (S := fun w' => w'.cell? ⟨go40, ((ji35)).toNat, none⟩ = some (.int .i64 (rd x10_23 (ji35))) ∧ w'.cell? (ad914.add (x11_3).toNat) = some (.int .i64 (rd x9_2 x11_3))) (ds := [14]) #[false, false, false, false, false, false, false, false, false, false, false, false, false, false, false] (by kernel_rfl) rfl rfl ⟨hx913_0, hx914_0⟩ (fun hHeld => ?_); refine with_tabW spec_l09Counts.tab13 spec_l09Counts.bits13 (fun HT_ HW_ => ?_)
                     generalize wc.drew = w53 at HO_9 HO_10 HB GG40 HQ56 hf40_0 hx40_0 hx913_0 hx914_0 hHeld ⊢
                     refine Zpt 0 (some 49) (h := ?_)
                     refine Zpt 1 (some 50) (h := ?_)
                     refine Zpt 2 (some 51) (h := ?_)
                     refine Zpt 3 (some 52) (h := ?_)
                     refine Zpt 4 (some 53) (h := ?_)
                     refine Zpt 5 (some 54) (h := ?_)
                     refine Zpt 6 (some 55) (h := ?_)
                     refine Zpt 8 (some 57) (h := ?_)
                     refine Zpt 9 (some 58) (h := ?_)
                     refine Zpt 10 (some 59) (h := ?_)
                     refine ZtW2 7 (some 56) hHeld (h := ?_)
                     refine ZtW2 11 (some 60) hHeld (h := ?_)
                     refine Zpt 12 (some 61) (h := ?_)
                     refine Zpt 13 (some 62) (h := ?_)
                     refine last_ (i := 14) (N := none) #[true, true, true, true, true, true, true, true, true, true, true, true, true, true, true] rfl rfl (one_of HT_.out (by kernel_rfl)) (by decide) (fun K hK => ?_)
                     refine skip_ (w1 := ?_) (by rfl) rfl ?_ ?_
                     rotate_left
                     ·go_simp
                      rfl
                     refine hK.out _ _ ?_
                     clear hK K
                     refine done_ (done_of HT_.out (by kernel_rfl)) ?_
                     try go_wp2
                     go_roundg kj23
                     case measure => have := HJ7.out; have := HK2.out; have := HK3.out; have := HJ23.out; omega
                     case rel => exact ⟨(y915), (wrap64 (x11_3 + 1)), (ZqS), H', ⟨by have := HJ7.out; have := HK2.out; have := HK3.out; have := HJ23.out; omega⟩, ⟨by refine ZQ ?_; exact Kd.R_mono (Kd.R_far (p := ⟨go40, ((ji35) : Int).toNat, none⟩) (Kd.R_mono HO_9.out (fun k_ hk => (⟨hk, fun e_ => hk (by rw [e_]; rfl)⟩ : _ ∧ k_ ≠ go40))) (fun _ hk => hk.2) (.int .i64 (wrap64 ((rd x10_23 (ji35)) + (rd x9_2 x11_3))))) (fun _ hk => hk.1)⟩, ⟨ZR HQ56⟩, ⟨by exact Zq35⟩⟩
                   ·rw [if_neg c39] at H
                    exact absurd H (by simp)
                  ·rw [if_neg c38] at H
                   exact absurd H (by simp)
                 ·rw [if_neg c37] at H
                  exact absurd H (by simp)
                ·rw [if_neg c36] at H
                 exact absurd H (by simp)
               ·rw [if_neg c34] at H
                have c34b0 : decide (0 < x11_3) = false := decide_eq_false c34
                clear c34
                by_cases c57 : x11_3 < a2
                ·rw [if_pos c57] at H
                 have c57b0 : decide (x11_3 < a2) = true := decide_eq_true c57
                 clear c57
                 obtain ⟨ji58, hji58⟩ : ∃ j_ : Int, (wrap64 (x11_3 + 1)) = j_ := ⟨_, rfl⟩
                 replace H : (if 0 ≤ (ji58) then (if (ji58) < (x10_23.length : Int) then (if 0 ≤ x11_3 then (if x11_3 < (x9_2.length : Int) then (spec_l09Counts.l1 kj23 x0_2 a2 a3 x9_2 (x10_23.set ((ji58) : Int).toNat (wrap64 ((rd x10_23 (ji58)) + (rd x9_2 x11_3)))) ji58) else (none)) else (none)) else (none)) else (none)) = some r := by first | (rw [hji58] at H; exact H) | (simp only [hji58] at H ⊢; exact H)
                 have hji58w : (IntKind.i64.wrap (x11_3 + 1)) = ji58 := (i64_w _).trans hji58
                 try clear hji42
                 try clear hji42w
                 by_cases c59 : 0 ≤ (ji58)
                 ·rw [if_pos c59] at H
                  have c59b0 : decide (0 ≤ (ji58)) = true := decide_eq_true c59
                  clear c59
                  by_cases c60 : (ji58) < (x10_23.length : Int)
                  ·rw [if_pos c60] at H
                   have c60b0 : decide ((ji58) < (x10_23.length : Int)) = true := decide_eq_true c60
                   clear c60
                   by_cases c61 : 0 ≤ x11_3
                   ·rw [if_pos c61] at H
                    have c61b0 : decide (0 ≤ x11_3) = true := decide_eq_true c61
                    clear c61
                    by_cases c62 : x11_3 < (x9_2.length : Int)
                    ·rw [if_pos c62] at H
                     have c62b0 : decide (x11_3 < (x9_2.length : Int)) = true := decide_eq_true c62
                     clear c62
                     obtain ⟨y921, hy921⟩ : ∃ y_ : List Int, y_ = (x10_23.set ((ji58) : Int).toNat (wrap64 ((rd x10_23 (ji58)) + (rd x9_2 x11_3)))) := ⟨_, rfl⟩
                     replace H : (spec_l09Counts.l1 kj23 x0_2 a2 a3 x9_2 y921 ji58) = some r := by have hq_ := hy921; exact ZqH
                     have Ny921 := Aside0.mk hy921
                     clear hy921
                     have H' := Aside0.mk H
                     clear H
                     try go_wp2
                     have n0_ := Aside0.mk (Kd.R_drew HO_9.out)
                     have n1_ := Aside0.mk (Kd.R_drew HO_10.out)
                     have n2_ := Aside0.mk (below_drew1 HB.out)
                     clear HO_9
                     clear HO_10
                     clear HB
                     have HO_9 := n0_
                     have HO_10 := n1_
                     have HB := n2_
                     clear n0_ n1_ n2_
                     obtain ⟨Ao65, co65, eo65⟩ := Kd.R_slice HO_10.out
                     (first | subst eo65 | (injection eo65 with f1_ f2_ f3_; have f4_ := f1_.symm; have f5_ := f3_.symm; clear f1_ f2_ f3_; subst f4_; subst f5_))
                     have p919 : 0 ≤ ((ji58) : Int) := of_decide_eq_true (by first | (with_reducible assumption) | assumption)
                     have q919 : (ji58) < (x10_23.length : Int) := of_decide_eq_true (by first | (with_reducible assumption) | assumption)
                     obtain ⟨ad919, e919, hx919_0⟩ := Kd.at_int (Kd.R_reads' HO_10.out).2.2 (ji58) p919 q919
                     cases e919
                     replace p919 := eq_true p919
                     replace q919 := eq_true q919
                     obtain ⟨Ao66, co66, eo66⟩ := Kd.R_slice HO_9.out
                     (first | subst eo66 | (injection eo66 with f1_ f2_ f3_; have f4_ := f1_.symm; have f5_ := f3_.symm; clear f1_ f2_ f3_; subst f4_; subst f5_))
                     have p920 : 0 ≤ (x11_3 : Int) := of_decide_eq_true (by first | (with_reducible assumption) | assumption)
                     have q920 : x11_3 < (x9_2.length : Int) := of_decide_eq_true (by first | (with_reducible assumption) | assumption)
                     obtain ⟨ad920, e920, hx920_0⟩ := Kd.at_int (Kd.R_reads' HO_9.out).2.2 x11_3 p920 q920
                     cases e920
                     replace p920 := eq_true p920
                     replace q920 := eq_true q920
                     have p63 : 0 ≤ ((ji58) : Int) := of_decide_eq_true (by first | (with_reducible assumption) | assumption)
                     have q63 : ((ji58) : Int) < ((x10_23.length : Int) : Int) := of_decide_eq_true (by first | (with_reducible assumption) | assumption)
                     obtain ⟨go63, co63, eo63, gb63, gl63, cl63, HG63⟩ := Kd.R_form HO_10.out (by omega)
                     (first | cases eo63 | (injection eo63 with ea_ en_ ec_; (first | subst ea_ | (injection ea_ with ea_; subst ea_)); subst ec_; clear en_))
                     have GB63 := Aside0.mk gb63
                     have GG63 := Aside0.mk HG63
                     clear gb63 gl63 HG63
                     (first | simp only [add_plain] at hx919_0 | skip)
                     obtain ⟨hx63_0, hf63_0⟩ := Kd.R_celln 0 HO_10.out ((ji58) : Int) p63 q63
                     replace p63 := eq_true p63
                     replace q63 := eq_true q63
                     have HP67 := Kd.R_putn HO_10.out ((ji58) : Int) (wrap64 ((rd x10_23 (ji58)) + (rd x9_2 x11_3)))
                     rw [← Ny921.out] at HP67
                     have HQ67 := Aside0.mk HP67
                     clear HP67
                     refine start_ (n := 15) (S := fun w' => w'.cell? ⟨go63, ((ji58)).toNat, none⟩ = some (.int .i64 (rd x10_23 (ji58))) ∧ w'.cell? (ad920.add (x11_3).toNat) = some (.int .i64 (rd x9_2 x11_3))) (ds := [14]) #[false, false, false, false, false, false, false, false, false, false, false, false, false, false, false] (by kernel_rfl) rfl rfl ⟨hx919_0, hx920_0⟩ (fun hHeld => ?_); refine with_tabW spec_l09Counts.tab15 spec_l09Counts.bits15 (fun HT_ HW_ => ?_)
                     generalize wc.drew = w64 at HO_9 HO_10 HB GG63 HQ67 hf63_0 hx63_0 hx919_0 hx920_0 hHeld ⊢
                     refine Zpt 0 (some 66) (h := ?_)
                     refine Zpt 1 (some 67) (h := ?_)
                     refine Zpt 2 (some 68) (h := ?_)
                     refine Zpt 3 (some 69) (h := ?_)
                     refine Zpt 4 (some 70) (h := ?_)
                     refine Zpt 5 (some 71) (h := ?_)
                     refine Zpt 6 (some 72) (h := ?_)
                     refine Zpt 8 (some 74) (h := ?_)
                     refine Zpt 9 (some 75) (h := ?_)
                     refine Zpt 10 (some 76) (h := ?_)
                     refine ZtW2 7 (some 73) hHeld (h := ?_)
                     refine ZtW2 11 (some 77) hHeld (h := ?_)
                     refine Zpt 12 (some 78) (h := ?_)
                     refine Zpt 13 (some 79) (h := ?_)
                     refine last_ (i := 14) (N := none) #[true, true, true, true, true, true, true, true, true, true, true, true, true, true, true] rfl rfl (one_of HT_.out (by kernel_rfl)) (by decide) (fun K hK => ?_)
                     refine skip_ (w1 := ?_) (by rfl) rfl ?_ ?_
                     rotate_left
                     ·go_simp
                      rfl
                     refine hK.out _ _ ?_
                     clear hK K
                     refine done_ (done_of HT_.out (by kernel_rfl)) ?_
                     try go_wp2
                     go_roundg kj23
                     case measure => have := HJ7.out; have := HK2.out; have := HK3.out; have := HJ23.out; omega
                     case rel => exact ⟨(y921), (ji58), (by first | rfl | (simp; done) | (simp only [← hji58] <;> (first | rfl | simp)) | (simp [*]; done)), H', ⟨by have := HJ7.out; have := HK2.out; have := HK3.out; have := HJ23.out; omega⟩, ⟨by refine ZQ ?_; exact Kd.R_mono (Kd.R_far (p := ⟨go63, ((ji58) : Int).toNat, none⟩) (Kd.R_mono HO_9.out (fun k_ hk => (⟨hk, fun e_ => hk (by rw [e_]; rfl)⟩ : _ ∧ k_ ≠ go63))) (fun _ hk => hk.2) (.int .i64 (wrap64 ((rd x10_23 (ji58)) + (rd x9_2 x11_3))))) (fun _ hk => hk.1)⟩, ⟨ZR HQ67⟩, ⟨by exact Zq36⟩⟩
                    ·rw [if_neg c62] at H
                     exact absurd H (by simp)
                   ·rw [if_neg c61] at H
                    exact absurd H (by simp)
                  ·rw [if_neg c60] at H
                   exact absurd H (by simp)
                 ·rw [if_neg c59] at H
                  exact absurd H (by simp)
                ·rw [if_neg c57] at H
                 have c57b0 : decide (x11_3 < a2) = false := decide_eq_false c57
                 clear c57
                 have H' := Aside0.mk H
                 clear H
                 go_wp2
                 go_roundg kj23
                 case measure => have := HJ7.out; have := HK2.out; have := HK3.out; have := HJ23.out; omega
                 case rel => exact ⟨(x10_23), (wrap64 (x11_3 + 1)), (ZqS), H', ⟨by have := HJ7.out; have := HK2.out; have := HK3.out; have := HJ23.out; omega⟩, ⟨ZR HO_9⟩, ⟨ZR HO_10⟩, ⟨ZB⟩⟩
            ·rw [if_neg c23] at H
             have c23b0 : decide (x11_3 ≤ a2) = false := decide_eq_false c23
             clear c23
             have H' := Aside0.mk H
             clear H
             go_wp2
             go_roundg k3
             case measure => have := HJ7.out; have := HK2.out; have := HK3.out; omega
             case rel => exact ⟨(wrap64 (x0_2 - 1)), (x10_3), (ZqS), H', ⟨by have := HJ7.out; have := HK2.out; have := HK3.out; omega⟩, ⟨by refine ZQ ?_; exact Kd.R_mono HO_10.out (fun _ hk => trivial)⟩, ⟨ZB⟩⟩
         ·rw [if_neg c20] at H
          exact absurd H (by simp)
        ·rw [if_neg c19] at H
         exact absurd H (by simp)
       ·rw [if_neg c17] at H
        have c17b0 : decide (0 < x0_2) = false := decide_eq_false c17
        clear c17
        obtain rfl := Option.some.inj H
        go_wp2
        go_ret
        exact ⟨_, by first | rfl | (simp [errW_none, errW_some] <;> rfl) | (simp only [← hji5]; first | rfl | (simp [errW_none, errW_some] <;> rfl)) | (simp [*, errW_none, errW_some] <;> rfl), by refine ZQ ?_; exact HO_9.out, ZB⟩
  ·rw [if_neg c7] at H
   exact absurd H (by simp)
 ·rw [if_neg c6] at H
  exact absurd H (by simp)

end Go.Proofs.Ytlodpobegdbhaaa.X
