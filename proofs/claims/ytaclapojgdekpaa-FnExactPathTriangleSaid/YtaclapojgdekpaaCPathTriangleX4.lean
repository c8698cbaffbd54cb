/- Contracts of functions that the law reaches, printed by a program of this session; Lean checks them. -/
import Derived.Test.YtaclapojgdekpaaCPathTriangleX0
import Derived.Test.YtaclapojgdekpaaCPathTriangleXZ
namespace Go.Proofs.Ytaclapojgdekpaa.X
open Go.RowKit Go.Proofs.YtaclapojgdekpaaW.PrintWords Go.Proofs.YtaclapojgdekpaaW.PrintLast Go.Proofs.YtaclapojgdekpaaW.PrintMore
attribute [local go_sem] max2_int min2_int max_two min_two max_three min_three max_four min_four   -- for this text's walks alone
set_option linter.unusedVariables false
set_option linter.unusedSimpArgs false

/-! ### spec_l09Sums: function 57 -/
mutual
def spec_l09Sums.j0 : Nat → Int → Int → Int → List Int → Int → List Int → List Int → Option (List Int)
 | 0, _, _, _, _, _, _, _ => none
 | k + 1, x1, x3, x9, x10, x118000, x118001, x118002 => spec_l09Sums.l0 k x1 x3 x9 x10 x118000 x118001 x118002
def spec_l09Sums.l0 : Nat → Int → Int → Int → List Int → Int → List Int → List Int → Option (List Int)
 | 0, _, _, _, _, _, _, _ => none
 | k + 1, x1, x3, x9, x10, x118000, x118001, x118002 => if x1 > 0 then (if 0 ≤ x3 then (if (x3 : Int).toNat ≤ 35184372088832 then (spec_l09Sums.l1 k x1 x3 x9 x10 (List.replicate (x3 : Int).toNat 0) 0 x118000 x118001 x118002) else (none)) else (none)) else (some x10)
def spec_l09Sums.l1 : Nat → Int → Int → Int → List Int → List Int → Int → Int → List Int → List Int → Option (List Int)
 | 0, _, _, _, _, _, _, _, _, _ => none
 | k + 1, x1, x3, x9, x10, x11, x12, x118000, x118001, x118002 => if x12 < x3 then (if 0 ≤ x12 then (if x12 < (x11.length : Int) then (if x12 < (x10.length : Int) then (if x12 < (x118001.length : Int) then (if x9 = 0 then (none) else ((some (x11.set (x12 : Int).toNat (Int.tmod (wrap64 ((rd x11 x12) + (wrap64 ((rd x10 x12) * (rd x118001 x12))))) x9) : List Int)).bind fun y128 => (if (wrap64 (x12 + 1)) < x3 then (if 0 ≤ (wrap64 (x12 + 1)) then (if (wrap64 (x12 + 1)) < (x11.length : Int) then ((some (y128.set ((wrap64 (x12 + 1)) : Int).toNat (Int.tmod (wrap64 ((rd y128 (wrap64 (x12 + 1))) + (rd x10 x12))) x9) : List Int)).bind fun y131 => (if x12 > 0 then (if 0 ≤ (wrap64 (x12 - 1)) then (if (wrap64 (x12 - 1)) < (x11.length : Int) then (if x12 < (x118002.length : Int) then (spec_l09Sums.l1 k x1 x3 x9 x10 (y131.set ((wrap64 (x12 - 1)) : Int).toNat (Int.tmod (wrap64 ((rd y131 (wrap64 (x12 - 1))) + (wrap64 ((rd x10 x12) * (rd x118002 x12))))) x9)) (wrap64 (x12 + 1)) x118000 x118001 x118002) else (none)) else (none)) else (none)) else (spec_l09Sums.l1 k x1 x3 x9 x10 y131 (wrap64 (x12 + 1)) x118000 x118001 x118002))) else (none)) else (none)) else (if x12 > 0 then (if 0 ≤ (wrap64 (x12 - 1)) then (if (wrap64 (x12 - 1)) < (x11.length : Int) then (if x12 < (x118002.length : Int) then (spec_l09Sums.l1 k x1 x3 x9 x10 (y128.set ((wrap64 (x12 - 1)) : Int).toNat (Int.tmod (wrap64 ((rd y128 (wrap64 (x12 - 1))) + (wrap64 ((rd x10 x12) * (rd x118002 x12))))) x9)) (wrap64 (x12 + 1)) x118000 x118001 x118002) else (none)) else (none)) else (none)) else (spec_l09Sums.l1 k x1 x3 x9 x10 y128 (wrap64 (x12 + 1)) x118000 x118001 x118002))))) else (none)) else (none)) else (none)) else (none)) else (spec_l09Sums.l0 k (wrap64 (x1 - 1)) x3 x9 x11 x118000 x118001 x118002)
end
def spec_l09Sums.f (k : Nat) (a0_0 : Int) (l0_1 : List Int) (l0_2 : List Int) (a1 : Int) (a2 : Int) (a3 : Int) : Option (List Int) := if 0 ≤ a3 then (if (a3 : Int).toNat ≤ 35184372088832 then ((some (List.replicate (a3 : Int).toNat 0 : List Int)).bind fun y118 => (if a2 < a3 then (if a0_0 = 0 then (none) else (if 0 ≤ a2 then (if a2 < (y118.length : Int) then (spec_l09Sums.j0 k a1 a3 a0_0 (y118.set (a2 : Int).toNat ((1 : Int) % a0_0)) a0_0 l0_1 l0_2) else (none)) else (none))) else (spec_l09Sums.j0 k a1 a3 a0_0 y118 a0_0 l0_1 l0_2))) else (none)) else (none)
theorem spec_l09Sums.mono_l : ∀ k, (∀ y0 y1 y2 y3 y4 y5 y6, LeO (spec_l09Sums.j0 k y0 y1 y2 y3 y4 y5 y6) (spec_l09Sums.j0 (k + 1) y0 y1 y2 y3 y4 y5 y6)) ∧ (∀ y0 y1 y2 y3 y4 y5 y6, LeO (spec_l09Sums.l0 k y0 y1 y2 y3 y4 y5 y6) (spec_l09Sums.l0 (k + 1) y0 y1 y2 y3 y4 y5 y6)) ∧ (∀ y0 y1 y2 y3 y4 y5 y6 y7 y8, LeO (spec_l09Sums.l1 k y0 y1 y2 y3 y4 y5 y6 y7 y8) (spec_l09Sums.l1 (k + 1) y0 y1 y2 y3 y4 y5 y6 y7 y8))
 | 0 => ⟨fun _ _ _ _ _ _ _ r h => by simp [spec_l09Sums.j0] at h, fun _ _ _ _ _ _ _ r h => by simp [spec_l09Sums.l0] at h, fun _ _ _ _ _ _ _ _ _ r h => by simp [spec_l09Sums.l1] at h⟩
 | k + 1 => by
  obtain ⟨ih0, ih1, ih2⟩ := spec_l09Sums.mono_l k
  refine ⟨?_, ?_, ?_⟩
  ·intro y0 y1 y2 y3 y4 y5 y6
   unfold spec_l09Sums.j0
   repeat' first
   | (with_reducible exact ih0 _ _ _ _ _ _ _)
   | (with_reducible exact ih1 _ _ _ _ _ _ _)
   | (with_reducible exact ih2 _ _ _ _ _ _ _ _ _)
   | (with_reducible exact LeO.refl _)
   | (with_reducible exact LeO.none _)
   | (with_reducible refine LeO.ite ?_ ?_)
   | (with_reducible refine LeO.bind ?_ (fun _ => ?_))
   | exact ih0 _ _ _ _ _ _ _
   | exact ih1 _ _ _ _ _ _ _
   | exact ih2 _ _ _ _ _ _ _ _ _
   | exact LeO.none _
   | refine LeO.ite ?_ ?_
   | refine LeO.bind ?_ (fun _ => ?_)
  ·intro y0 y1 y2 y3 y4 y5 y6
   unfold spec_l09Sums.l0
   repeat' first
   | (with_reducible exact ih0 _ _ _ _ _ _ _)
   | (with_reducible exact ih1 _ _ _ _ _ _ _)
   | (with_reducible exact ih2 _ _ _ _ _ _ _ _ _)
   | (with_reducible exact LeO.refl _)
   | (with_reducible exact LeO.none _)
   | (with_reducible refine LeO.ite ?_ ?_)
   | (with_reducible refine LeO.bind ?_ (fun _ => ?_))
   | exact ih0 _ _ _ _ _ _ _
   | exact ih1 _ _ _ _ _ _ _
   | exact ih2 _ _ _ _ _ _ _ _ _
   | exact LeO.none _
   | refine LeO.ite ?_ ?_
   | refine LeO.bind ?_ (fun _ => ?_)
  ·intro y0 y1 y2 y3 y4 y5 y6 y7 y8
   unfold spec_l09Sums.l1
   repeat' first
   | (with_reducible exact ih0 _ _ _ _ _ _ _)
   | (with_reducible exact ih1 _ _ _ _ _ _ _)
   | (with_reducible exact ih2 _ _ _ _ _ _ _ _ _)
   | (with_reducible exact LeO.refl _)
   | (with_reducible exact LeO.none _)
   | (with_reducible refine LeO.ite ?_ ?_)
   | (with_reducible refine LeO.bind ?_ (fun _ => ?_))
   | exact ih0 _ _ _ _ _ _ _
   | exact ih1 _ _ _ _ _ _ _
   | exact ih2 _ _ _ _ _ _ _ _ _
   | exact LeO.none _
   | refine LeO.ite ?_ ?_
   | refine LeO.bind ?_ (fun _ => ?_)
theorem spec_l09Sums.mono : ∀ a0 a1 a2 a3 a4 a5 k, LeO (spec_l09Sums.f k a0 a1 a2 a3 a4 a5) (spec_l09Sums.f (k + 1) a0 a1 a2 a3 a4 a5) := by
 intro a0 a1 a2 a3 a4 a5 k
 obtain ⟨ih0, ih1, ih2⟩ := spec_l09Sums.mono_l k
 unfold spec_l09Sums.f
 repeat' first
   | (with_reducible exact ih0 _ _ _ _ _ _ _)
   | (with_reducible exact ih1 _ _ _ _ _ _ _)
   | (with_reducible exact ih2 _ _ _ _ _ _ _ _ _)
   | (with_reducible exact LeO.refl _)
   | (with_reducible exact LeO.none _)
   | (with_reducible refine LeO.ite ?_ ?_)
   | (with_reducible refine LeO.bind ?_ (fun _ => ?_))
   | exact ih0 _ _ _ _ _ _ _
   | exact ih1 _ _ _ _ _ _ _
   | exact ih2 _ _ _ _ _ _ _ _ _
   | exact LeO.none _
   | refine LeO.ite ?_ ?_
   | refine LeO.bind ?_ (fun _ => ?_)
def spec_l09Sums.T11 : Bool × List (List Nat × List Nat) := (true, [([], []), ([], []), ([], []), ([], []), ([2, 3], [2, 3]), ([4], [4]), ([], []), ([], []), ([6, 7], [6, 7]), ([8], [8]), ([], []), ([10], [10]), ([], []), ([11, 12], [11, 12]), ([13], [13]), ([9, 14], [9, 14]), ([5, 15], [5, 15]), ([], []), ([16, 17], [16, 17]), ([0, 1, 0, 1, 2, 3, 4, 5, 6, 7, 8, 9, 10, 11, 12, 13, 14, 15, 16, 17, 18], [0, 1]), ([19, 18, 0, 1, 2, 3, 4, 5, 6, 7, 8, 9, 10, 11, 12, 13, 14, 15, 16, 17, 18], [18, 19])])
def spec_l09Sums.B11 : List Nat := [0, 0, 0, 0, 12, 28, 0, 0, 192, 448, 0, 1024, 0, 7168, 15360, 32704, 65532, 0, 262140, 524287, 1048575]
theorem spec_l09Sums.tab11 : rtab .any (opsOf Try.f57 11) = spec_l09Sums.T11 := by kernel_rfl
theorem spec_l09Sums.bits11 : waitsOk spec_l09Sums.T11.2 spec_l09Sums.B11 = true := by kernel_rfl
def spec_l09Sums.T13 : Bool × List (List Nat × List Nat) := (true, [([], []), ([], []), ([1], [1]), ([], []), ([], []), ([4], [4]), ([3, 5], [3, 5]), ([6], [6]), ([], []), ([], []), ([8, 9], [8, 9]), ([10], [10]), ([7, 11], [7, 11]), ([], []), ([12, 13], [12, 13]), ([0, 2, 0, 1, 2, 3, 4, 5, 6, 7, 8, 9, 10, 11, 12, 13, 14], [0, 2]), ([15, 14, 0, 1, 2, 3, 4, 5, 6, 7, 8, 9, 10, 11, 12, 13, 14], [14, 15])])
def spec_l09Sums.B13 : List Nat := [0, 0, 2, 0, 0, 16, 56, 120, 0, 0, 768, 1792, 4088, 0, 16376, 32767, 65535]
theorem spec_l09Sums.tab13 : rtab .any (opsOf Try.f57 13) = spec_l09Sums.T13 := by kernel_rfl
theorem spec_l09Sums.bits13 : waitsOk spec_l09Sums.T13.2 spec_l09Sums.B13 = true := by kernel_rfl
def spec_l09Sums.T15 : Bool × List (List Nat × List Nat) := (true, [([], []), ([], []), ([1], [1]), ([], []), ([], []), ([4], [4]), ([3, 5], [3, 5]), ([6], [6]), ([], []), ([], []), ([8, 9], [8, 9]), ([10], [10]), ([], []), ([12], [12]), ([], []), ([13, 14], [13, 14]), ([15], [15]), ([11, 16], [11, 16]), ([7, 17], [7, 17]), ([], []), ([18, 19], [18, 19]), ([0, 2, 0, 1, 2, 3, 4, 5, 6, 7, 8, 9, 10, 11, 12, 13, 14, 15, 16, 17, 18, 19, 20], [0, 2]), ([21, 20, 0, 1, 2, 3, 4, 5, 6, 7, 8, 9, 10, 11, 12, 13, 14, 15, 16, 17, 18, 19, 20], [20, 21])])
def spec_l09Sums.B15 : List Nat := [0, 0, 2, 0, 0, 16, 56, 120, 0, 0, 768, 1792, 0, 4096, 0, 28672, 61440, 130816, 262136, 0, 1048568, 2097151, 4194303]
theorem spec_l09Sums.tab15 : rtab .any (opsOf Try.f57 15) = spec_l09Sums.T15 := by kernel_rfl
theorem spec_l09Sums.bits15 : waitsOk spec_l09Sums.T15.2 spec_l09Sums.B15 = true := by kernel_rfl
set_option maxHeartbeats 8000000 in
set_option maxRecDepth 100000 in
theorem spec_l09Sums.calls (k : Nat) (a0_0 : Int) (A0_1 : Option Addr) (c0_1 : Nat) (l0_1 : List Int) (A0_2 : Option Addr) (c0_2 : Nat) (l0_2 : List Int) (a1 : Int) (a2 : Int) (a3 : Int) (r : List Int) (w : World) (hr0_1 : Kd.C (Kd.int .i64) w A0_1 l0_1.length l0_1) (hc0_1 : l0_1.length ≤ c0_1) (hr0_2 : Kd.C (Kd.int .i64) w A0_2 l0_2.length l0_2) (hc0_2 : l0_2.length ≤ c0_2) (h : spec_l09Sums.f k a0_0 l0_1 l0_2 a1 a2 a3 = some r) :
  Calls Try.prog 57 #[.agg #[.int .i64 a0_0, .slice A0_1 l0_1.length c0_1, .slice A0_2 l0_2.length c0_2], .int .i64 a1, .int .i64 a2, .int .i64 a3] w fun e w' => ∃ v0_ : Value, e = .returned (v0_) ∧ Kd.R (Kd.int .i64) 2 w' w.heap.size (fun _ => True) v0_ r ∧ Below w.heap.size w w' := by
 have hu29 := Try.underlying29
 have HR0_1 := Aside0.mk hr0_1
 have HC0_1 := Aside0.mk hc0_1
 clear hr0_1 hc0_1
 have HR0_2 := Aside0.mk hr0_2
 have HC0_2 := Aside0.mk hc0_2
 clear hr0_2 hc0_2
 have HB := Aside0.mk (Below.refl w.heap.size w)
 have H : (if 0 ≤ a3 then (if (a3 : Int).toNat ≤ 35184372088832 then ((some (List.replicate (a3 : Int).toNat 0 : List Int)).bind fun y118 => (if a2 < a3 then (if a0_0 = 0 then (none) else (if 0 ≤ a2 then (if a2 < (y118.length : Int) then (spec_l09Sums.j0 k a1 a3 a0_0 (y118.set (a2 : Int).toNat ((1 : Int) % a0_0)) a0_0 l0_1 l0_2) else (none)) else (none))) else (spec_l09Sums.j0 k a1 a3 a0_0 y118 a0_0 l0_1 l0_2))) else (none)) else (none)) = some r := h
 clear h
 by_cases c5 : 0 ≤ a3
 ·rw [if_pos c5] at H
  have c5b0 := eq_true c5
  have c5b1 : decide (0 ≤ a3) = true := decide_eq_true c5
  clear c5
  by_cases c6 : (a3 : Int).toNat ≤ 35184372088832
  ·rw [if_pos c6] at H
   have c6b0 := eq_true c6
   have c6b1 : decide ((a3 : Int).toNat ≤ 35184372088832) = true := decide_eq_true c6
   clear c6
   obtain ⟨y118, hy118⟩ : ∃ y_ : List Int, y_ = (List.replicate (a3 : Int).toNat 0) := ⟨_, rfl⟩
   replace H : (if a2 < a3 then (if a0_0 = 0 then (none) else (if 0 ≤ a2 then (if a2 < (y118.length : Int) then (spec_l09Sums.j0 k a1 a3 a0_0 (y118.set (a2 : Int).toNat ((1 : Int) % a0_0)) a0_0 l0_1 l0_2) else (none)) else (none))) else (spec_l09Sums.j0 k a1 a3 a0_0 y118 a0_0 l0_1 l0_2)) = some r := by first | (rw [hy118]; with_reducible exact H) | (have H2_ := (Option.bind_some _ _).symm.trans H; rw [hy118]; with_reducible exact H2_) | (have H2_ := (Option.bind_some _ _).symm.trans H; with_reducible exact H2_) | with_reducible exact H | (rw [hy118]; exact H) | exact H
   have Ny118 := Aside0.mk hy118
   clear hy118
   have HC7 := Aside0.mk H
   clear H
   go_enter Try.func57, Try.ntmps57
   go_upto_if 19 with (first | ((with_reducible refine gate_dst (N := 4) rfl ?_); refine box_event ?hg (N := 4) ?hd (cs := #[.int .i64 a0_0, .slice A0_1 l0_1.length c0_1, .slice A0_2 l0_2.length c0_2]) (t := 29) ?hr ?_; (case hd => rfl); (case hg => rfl); (case hr => first | (go_simp; done) | (go_simp; rfl)); intro gb117 hg w8 hbox hb; have n0_ := Aside0.mk (below_step ZB hb); have n1_ := Aside0.mk (hbox); have n2_ := Aside0.mk ((ZG hg : w.heap.size ≤ gb117)); have n3_ := Aside0.mk ((ZG hg : w.heap.size ≤ gb117)); clear HB; have HB := n0_; have BK117 := n1_; have GW117 := n2_; have GE117 := n3_; clear n0_ n1_ n2_ n3_; clear hb hbox hg; obtain ⟨hcz9_0, hcz9_1, hcz9_2, hfz9_0, hfz9_1, hfz9_2⟩ := ZD3 BK117) | ((with_reducible refine gate_dst (N := 16) rfl ?_); refine Kd.R_make (Kd.int .i64) _ 2 rfl (N := 16) rfl 22 _ _ rfl a3 rfl rfl Try.underlying22 (.int .i64 0) 8 info2 rfl (by decide) (by omega) 0 (ok := fun _ => True) (okp := fun _ => True) rfl (fun _ hk => hk) trivial (of_decide_eq_true (by first | (with_reducible assumption) | assumption)) (Nat.le_trans (Nat.mul_le_mul_right _ (of_decide_eq_true (by first | (with_reducible assumption) | assumption) : a3.toNat ≤ 35184372088832)) (by omega)) (Below.refl _ _) (Nat.le_refl _) ?_; intro v119 w10 ho11 hb hg_ hnew_; clear hg_ hnew_; (first | rw [← Ny118.out] at ho11 | (simp only [Int.reduceToNat] at ho11; rw [← Ny118.out] at ho11)); have n0_ := Aside0.mk (Kd.R_lower ho11 (below_size ZB)); have n1_ := ZL BK117 hb; have n2_ := Aside0.mk (below_step ZB hb); clear BK117; clear HB; have HO120 := n0_; have BK117 := n1_; have HB := n2_; clear n0_ n1_ n2_; clear hb ho11))
   (try simp only [Act.put, List.setIfInBounds_toArray, List.set_cons_zero, List.set_cons_succ])
   go_cut [] (fun wc => ∃ (kq : Nat) (x10_6 : List Int), Aside0 (spec_l09Sums.j0 kq a1 a3 a0_0 x10_6 a0_0 l0_1 l0_2 = some r) ∧ Aside0 (kq ≤ k) ∧ Aside0 (Kd.R (Kd.int .i64) 2 wc w.heap.size (fun _ => True) v119 x10_6) ∧ Aside0 (wc.heap[gb117]? = some (.cells #[.int .i64 a0_0, (.slice A0_1 l0_1.length c0_1), (.slice A0_2 l0_2.length c0_2)] 29 (0, 0))) ∧ Aside0 (Below w.heap.size w wc))
   case first =>
    have H := HC7.out
    clear HC7
    by_cases c12 : a2 < a3
    ·rw [if_pos c12] at H
     have c12b0 : decide (a2 < a3) = true := decide_eq_true c12
     clear c12
     (first | rw [c12b0] | (simp only [i64_w, i32_w]; rw [c12b0]) | skip)
     by_cases c13 : a0_0 = 0
     ·rw [if_pos c13] at H
      exact absurd H (by simp)
     ·rw [if_neg c13] at H
      have c13b0 : (a0_0 == 0) = false := beq_eq_false_iff_ne.mpr c13
      have c13b1 : (a0_0 != 0) = true := bne_iff_ne.mpr c13
      by_cases c14 : 0 ≤ a2
      ·rw [if_pos c14] at H
       have c14b0 : decide (0 ≤ a2) = true := decide_eq_true c14
       clear c14
       by_cases c15 : a2 < (y118.length : Int)
       ·rw [if_pos c15] at H
        have c15b0 : decide (a2 < (y118.length : Int)) = true := decide_eq_true c15
        clear c15
        obtain ⟨y121, hy121⟩ : ∃ y_ : List Int, y_ = (y118.set (a2 : Int).toNat ((1 : Int) % a0_0)) := ⟨_, rfl⟩
        replace H : (spec_l09Sums.j0 k a1 a3 a0_0 y121 a0_0 l0_1 l0_2) = some r := by first | (rw [hy121]; with_reducible exact H) | (have H2_ := (Option.bind_some _ _).symm.trans H; rw [hy121]; with_reducible exact H2_) | (have H2_ := (Option.bind_some _ _).symm.trans H; with_reducible exact H2_) | with_reducible exact H | (rw [hy121]; exact H) | exact H
        have Ny121 := Aside0.mk hy121
        clear hy121
        have H' := Aside0.mk H
        clear H
        have p16 : 0 ≤ (a2 : Int) := of_decide_eq_true (by first | (with_reducible assumption) | assumption)
        have q16 : (a2 : Int) < ((y118.length : Int) : Int) := of_decide_eq_true (by first | (with_reducible assumption) | assumption)
        obtain ⟨go16, co16, eo16, gb16, gl16, cl16, HG16⟩ := Kd.R_form HO120.out (by omega)
        (first | cases eo16 | (injection eo16 with ea_ en_ ec_; (first | subst ea_ | (injection ea_ with ea_; subst ea_)); subst ec_; clear en_))
        have GB16 := Aside0.mk gb16
        have GG16 := Aside0.mk HG16
        clear gb16 gl16 HG16
        obtain ⟨hx16_0, hf16_0⟩ := Kd.R_celln 0 HO120.out (a2 : Int) p16 q16
        replace p16 := eq_true p16
        replace q16 := eq_true q16
        have HP17 := Kd.R_putg HO120.out (a2 : Int) ((1 : Int) % a0_0)
        go_wp2_with (first | ((with_reducible refine gate_store (t := 2) (p := 24) rfl ?_); refine store_event (t := 2) (p := 24) (v := ?vo_w18) (w1 := (w10.setCell ⟨go16, (a2 : Int).toNat, none⟩ (.int .i64 ((1 : Int) % a0_0)))) ?hg ?ho ?hn ?hr ?_; (case ho => rfl); (case hg => rfl); (case hn => rfl); (case hr => first | (go_simp; done) | (go_simp; rfl)); intro w18 hw; have hg : w10.grownBy w18 (some go16) := (by rw [hw]; exact HP17.2); have hp_ : Kd.R (Kd.int .i64) 2 w18 w.heap.size (fun _ => True) (.slice (some ⟨go16, 0, none⟩) y118.length co16) y121 := (by rw [hw, Ny121.out]; exact HP17.1); clear HP17; have n0_ := Aside0.mk (blk_grown (ZK BK117) hg (Kd.R_ne HO120.out BK117.out (by decide))); have n1_ := Aside0.mk (hp_); have n2_ := Aside0.mk ((by rw [hw]; exact below_set (HB.out) GB16.out : Below w.heap.size w w18)); clear BK117; clear HO120; clear HB; have BK117 := n0_; have HO120 := n1_; have HB := n2_; clear n0_ n1_ n2_; clear hg hw hp_))
        go_meet
        case rel => exact ⟨_, (y121), H', ⟨by first | omega | exact Nat.le_refl _⟩, ⟨ZR HO120⟩, ⟨ZK BK117⟩, ⟨ZB⟩⟩
       ·rw [if_neg c15] at H
        exact absurd H (by simp)
      ·rw [if_neg c14] at H
       exact absurd H (by simp)
    ·rw [if_neg c12] at H
     have c12b0 : decide (a2 < a3) = false := decide_eq_false c12
     clear c12
     (first | rw [c12b0] | (simp only [i64_w, i32_w]; rw [c12b0]) | skip)
     have H' := Aside0.mk H
     clear H
     go_wp2
     go_meet
     case rel => exact ⟨_, (y118), H', ⟨by first | omega | exact Nat.le_refl _⟩, ⟨ZR HO120⟩, ⟨ZK BK117⟩, ⟨ZB⟩⟩
   case rest =>
    clear HC7
    try clear c1
    try clear p1
    try clear q1
    try clear hx1
    try clear p2
    try clear c5
    try clear c5b0
    try clear c5b1
    try clear c6
    try clear c6b0
    try clear c6b1
    try clear c12
    try clear c12b0
    try clear c13
    try clear c13b0
    try clear c13b1
    try clear c14
    try clear c14b0
    try clear c15
    try clear c15b0
    try clear p16
    try clear q16
    try clear hx16
    try clear hf16
    try clear hcz9_0
    try clear hcz9_1
    try clear hcz9_2
    try clear hfz9_0
    try clear hfz9_1
    try clear hfz9_2
    try clear hx16_0
    try clear p16
    try clear q16
    obtain ⟨kq, x10_6, HA, HJ6, HO_10, BK117, HB⟩ := hcut
    cases kq with
    | zero => exact absurd HA.out (by simp [spec_l09Sums.j0])
    | succ kj6 =>
     have H := HA.out
     clear HA
     simp only [spec_l09Sums.j0] at H
     have H' := Aside0.mk H
     clear H
     go_wp2
     go_loopg [1, 10] kj6 (fun kq v1 v10 w' => ∃ (x1_2 : Int) (x10_2 : List Int), v1 = .int .i64 x1_2 ∧ Aside0 (spec_l09Sums.l0 kq x1_2 a3 a0_0 x10_2 a0_0 l0_1 l0_2 = some r) ∧ Aside0 (kq ≤ kj6) ∧ Aside0 (Kd.R (Kd.int .i64) 2 w' w.heap.size (fun _ => True) v10 x10_2) ∧ Aside0 (w'.heap[gb117]? = some (.cells #[.int .i64 a0_0, (.slice A0_1 l0_1.length c0_1), (.slice A0_2 l0_2.length c0_2)] 29 (0, 0))) ∧ Aside0 (Below w.heap.size w w'))
     case atStart => exact ⟨(a1), (x10_6), (by first | rfl | (simp; done) | (simp [*]; done)), H', ⟨Nat.le_refl _⟩, ⟨ZR HO_10⟩, ⟨ZK BK117⟩, ⟨ZB⟩⟩
     case round =>
      clear H'
      try clear c1
      try clear p1
      try clear q1
      try clear hx1
      try clear p2
      try clear c5
      try clear c5b0
      try clear c5b1
      try clear c6
      try clear c6b0
      try clear c6b1
      try clear c12
      try clear c12b0
      try clear c13
      try clear c13b0
      try clear c13b1
      try clear c14
      try clear c14b0
      try clear c15
      try clear c15b0
      try clear p16
      try clear q16
      try clear hx16
      try clear hf16
      try clear hcz9_0
      try clear hcz9_1
      try clear hcz9_2
      try clear hfz9_0
      try clear hfz9_1
      try clear hfz9_2
      try clear hx16_0
      try clear p1
      try clear p16
      try clear p2
      try clear q1
      try clear q16
      obtain ⟨x1_2, x10_2, rfl, HA, HK2, HO_10, BK117, HB⟩ := hrel
      cases gk with
      | zero => exact absurd HA.out (by simp [spec_l09Sums.l0])
      | succ k2 =>
       have H := HA.out
       clear HA
       simp only [spec_l09Sums.l0] at H
       by_cases c19 : x1_2 > 0
       ·rw [if_pos c19] at H
        have c19b0 : decide (0 < x1_2) = true := decide_eq_true c19
        clear c19
        by_cases c20 : 0 ≤ a3
        ·rw [if_pos c20] at H
         have c20b0 := eq_true c20
         have c20b1 : decide (0 ≤ a3) = true := decide_eq_true c20
         clear c20
         by_cases c21 : (a3 : Int).toNat ≤ 35184372088832
         ·rw [if_pos c21] at H
          have c21b0 := eq_true c21
          have c21b1 : decide ((a3 : Int).toNat ≤ 35184372088832) = true := decide_eq_true c21
          clear c21
          obtain ⟨y122, hy122⟩ : ∃ y_ : List Int, y_ = (List.replicate (a3 : Int).toNat 0) := ⟨_, rfl⟩
          replace H : (spec_l09Sums.l1 k2 x1_2 a3 a0_0 x10_2 y122 0 a0_0 l0_1 l0_2) = some r := by first | (rw [hy122]; with_reducible exact H) | (have H2_ := (Option.bind_some _ _).symm.trans H; rw [hy122]; with_reducible exact H2_) | (have H2_ := (Option.bind_some _ _).symm.trans H; with_reducible exact H2_) | with_reducible exact H | (rw [hy122]; exact H) | exact H
          have Ny122 := Aside0.mk hy122
          clear hy122
          have H' := Aside0.mk H
          clear H
          go_wp2_with (first | ((with_reducible refine gate_dst (N := 30) rfl ?_); refine Kd.R_make (Kd.int .i64) _ 2 rfl (N := 30) rfl 22 _ _ rfl a3 rfl rfl Try.underlying22 (.int .i64 0) 8 info2 rfl (by decide) (by omega) 0 (ok := fun _ => True) (okp := fun _ => True) rfl (fun _ hk => hk) trivial (of_decide_eq_true (by first | (with_reducible assumption) | assumption)) (Nat.le_trans (Nat.mul_le_mul_right _ (of_decide_eq_true (by first | (with_reducible assumption) | assumption) : a3.toNat ≤ 35184372088832)) (by omega)) (Below.refl _ _) (Nat.le_refl _) ?_; intro v123 w22 ho23 hb hg_ hnew_; clear hg_ hnew_; (first | rw [← Ny122.out] at ho23 | (simp only [Int.reduceToNat] at ho23; rw [← Ny122.out] at ho23)); have n0_ := Aside0.mk (Kd.R_elder' (ZR HO_10) (Kd.R_base ho23) hb); have n1_ := Aside0.mk (Kd.R_lower (Kd.R_new' ho23 (Kd.R_lt (ZR HO_10))) (below_size ZB)); have n2_ := ZL BK117 hb; have n3_ := Aside0.mk (below_step ZB hb); clear HO_10; clear BK117; clear HB; have HO_10 := n0_; have HO124 := n1_; have BK117 := n2_; have HB := n3_; clear n0_ n1_ n2_ n3_; clear hb ho23))
          go_loopg [12] k2 (fun kq v12 w' => ∃ (x11_3 : List Int) (x12_3 : Int), v12 = .int .i64 x12_3 ∧ Aside0 (spec_l09Sums.l1 kq x1_2 a3 a0_0 x10_2 x11_3 x12_3 a0_0 l0_1 l0_2 = some r) ∧ Aside0 (kq ≤ k2) ∧ Aside0 (Kd.R (Kd.int .i64) 2 w' w.heap.size (fun k_ => some k_ ≠ (v123 : Value).ownBlock) u10 x10_2) ∧ Aside0 (Kd.R (Kd.int .i64) 2 w' w.heap.size (fun k_ => some k_ ≠ (u10 : Value).ownBlock) v123 x11_3) ∧ Aside0 (w'.heap[gb117]? = some (.cells #[.int .i64 a0_0, (.slice A0_1 l0_1.length c0_1), (.slice A0_2 l0_2.length c0_2)] 29 (0, 0))) ∧ Aside0 (Below w.heap.size w w'))
          case atStart => exact ⟨(y122), (0), (by first | rfl | (simp; done) | (simp [*]; done)), H', ⟨Nat.le_refl _⟩, ⟨by refine ZQ ?_; exact Kd.R_mono HO_10.out (fun _ hk => hk.2)⟩, ⟨by refine ZQ ?_; exact Kd.R_mono HO124.out (fun _ hk => hk.2)⟩, ⟨ZK BK117⟩, ⟨ZB⟩⟩
          case round =>
           clear H'
           try clear c1
           try clear p1
           try clear q1
           try clear hx1
           try clear c2
           try clear p2
           try clear c5
           try clear c5b0
           try clear c5b1
           try clear c6
           try clear c6b0
           try clear c6b1
           try clear c12
           try clear c12b0
           try clear c13
           try clear c13b0
           try clear c13b1
           try clear c14
           try clear c14b0
           try clear c15
           try clear c15b0
           try clear p16
           try clear q16
           try clear hx16
           try clear hf16
           try clear c19
           try clear c19b0
           try clear c20
           try clear c20b0
           try clear c20b1
           try clear c21
           try clear c21b0
           try clear c21b1
           try clear hcz9_0
           try clear hcz9_1
           try clear hcz9_2
           try clear hfz9_0
           try clear hfz9_1
           try clear hfz9_2
           try clear hx16_0
           try clear p1
           try clear p16
           try clear p2
           try clear q1
           try clear q16
           obtain ⟨x11_3, x12_3, rfl, HA, HK3, HO_10, HO_11, BK117, HB⟩ := hrel
           cases gk with
           | zero => exact absurd HA.out (by simp [spec_l09Sums.l1])
           | succ k3 =>
            have H := HA.out
            clear HA
            simp only [spec_l09Sums.l1] at H
            by_cases c24 : x12_3 < a3
            ·rw [if_pos c24] at H
             have c24b0 : decide (x12_3 < a3) = true := decide_eq_true c24
             clear c24
             by_cases c25 : 0 ≤ x12_3
             ·rw [if_pos c25] at H
              have c25b0 : decide (0 ≤ x12_3) = true := decide_eq_true c25
              clear c25
              by_cases c26 : x12_3 < (x11_3.length : Int)
              ·rw [if_pos c26] at H
               have c26b0 : decide (x12_3 < (x11_3.length : Int)) = true := decide_eq_true c26
               clear c26
               by_cases c27 : x12_3 < (x10_2.length : Int)
               ·rw [if_pos c27] at H
                have c27b0 : decide (x12_3 < (x10_2.length : Int)) = true := decide_eq_true c27
                clear c27
                by_cases c28 : x12_3 < (l0_1.length : Int)
                ·rw [if_pos c28] at H
                 have c28b0 : decide (x12_3 < (l0_1.length : Int)) = true := decide_eq_true c28
                 clear c28
                 by_cases c29 : a0_0 = 0
                 ·rw [if_pos c29] at H
                  exact absurd H (by simp)
                 ·rw [if_neg c29] at H
                  have c29b0 : (a0_0 == 0) = false := beq_eq_false_iff_ne.mpr c29
                  have c29b1 : (a0_0 != 0) = true := bne_iff_ne.mpr c29
                  obtain ⟨y128, hy128⟩ : ∃ y_ : List Int, y_ = (x11_3.set (x12_3 : Int).toNat (Int.tmod (wrap64 ((rd x11_3 x12_3) + (wrap64 ((rd x10_2 x12_3) * (rd l0_1 x12_3))))) a0_0)) := ⟨_, rfl⟩
                  replace H : (if (wrap64 (x12_3 + 1)) < a3 then (if 0 ≤ (wrap64 (x12_3 + 1)) then (if (wrap64 (x12_3 + 1)) < (x11_3.length : Int) then ((some (y128.set ((wrap64 (x12_3 + 1)) : Int).toNat (Int.tmod (wrap64 ((rd y128 (wrap64 (x12_3 + 1))) + (rd x10_2 x12_3))) a0_0) : List Int)).bind fun y131 => (if x12_3 > 0 then (if 0 ≤ (wrap64 (x12_3 - 1)) then (if (wrap64 (x12_3 - 1)) < (x11_3.length : Int) then (if x12_3 < (l0_2.length : Int) then (spec_l09Sums.l1 k3 x1_2 a3 a0_0 x10_2 (y131.set ((wrap64 (x12_3 - 1)) : Int).toNat (Int.tmod (wrap64 ((rd y131 (wrap64 (x12_3 - 1))) + (wrap64 ((rd x10_2 x12_3) * (rd l0_2 x12_3))))) a0_0)) (wrap64 (x12_3 + 1)) a0_0 l0_1 l0_2) else (none)) else (none)) else (none)) else (spec_l09Sums.l1 k3 x1_2 a3 a0_0 x10_2 y131 (wrap64 (x12_3 + 1)) a0_0 l0_1 l0_2))) else (none)) else (none)) else (if x12_3 > 0 then (if 0 ≤ (wrap64 (x12_3 - 1)) then (if (wrap64 (x12_3 - 1)) < (x11_3.length : Int) then (if x12_3 < (l0_2.length : Int) then (spec_l09Sums.l1 k3 x1_2 a3 a0_0 x10_2 (y128.set ((wrap64 (x12_3 - 1)) : Int).toNat (Int.tmod (wrap64 ((rd y128 (wrap64 (x12_3 - 1))) + (wrap64 ((rd x10_2 x12_3) * (rd l0_2 x12_3))))) a0_0)) (wrap64 (x12_3 + 1)) a0_0 l0_1 l0_2) else (none)) else (none)) else (none)) else (spec_l09Sums.l1 k3 x1_2 a3 a0_0 x10_2 y128 (wrap64 (x12_3 + 1)) a0_0 l0_1 l0_2))) = some r := by first | (rw [hy128]; with_reducible exact H) | (have H2_ := (Option.bind_some _ _).symm.trans H; rw [hy128]; with_reducible exact H2_) | (have H2_ := (Option.bind_some _ _).symm.trans H; with_reducible exact H2_) | with_reducible exact H | (rw [hy128]; exact H) | exact H
                  have Ny128 := Aside0.mk hy128
                  clear hy128
                  by_cases c31 : (wrap64 (x12_3 + 1)) < a3
                  ·rw [if_pos c31] at H
                   have c31b0 : decide ((wrap64 (x12_3 + 1)) < a3) = true := decide_eq_true c31
                   clear c31
                   obtain ⟨ji32, hji32⟩ : ∃ j_ : Int, (wrap64 (x12_3 + 1)) = j_ := ⟨_, rfl⟩
                   replace H : (if 0 ≤ (ji32) then (if (ji32) < (x11_3.length : Int) then ((some (y128.set ((ji32) : Int).toNat (Int.tmod (wrap64 ((rd y128 (ji32)) + (rd x10_2 x12_3))) a0_0) : List Int)).bind fun y131 => (if x12_3 > 0 then (if 0 ≤ (wrap64 (x12_3 - 1)) then (if (wrap64 (x12_3 - 1)) < (x11_3.length : Int) then (if x12_3 < (l0_2.length : Int) then (spec_l09Sums.l1 k3 x1_2 a3 a0_0 x10_2 (y131.set ((wrap64 (x12_3 - 1)) : Int).toNat (Int.tmod (wrap64 ((rd y131 (wrap64 (x12_3 - 1))) + (wrap64 ((rd x10_2 x12_3) * (rd l0_2 x12_3))))) a0_0)) ji32 a0_0 l0_1 l0_2) else (none)) else (none)) else (none)) else (spec_l09Sums.l1 k3 x1_2 a3 a0_0 x10_2 y131 ji32 a0_0 l0_1 l0_2))) else (none)) else (none)) = some r := by first | (rw [hji32] at H; exact H) | (simp only [hji32] at H ⊢; exact H)
                   (try rw [hji32] at c31b0)
                   have hji32w : (IntKind.i64.wrap (x12_3 + 1)) = ji32 := (i64_w _).trans hji32
                   by_cases c33 : 0 ≤ (ji32)
                   ·rw [if_pos c33] at H
                    have c33b0 : decide (0 ≤ (ji32)) = true := decide_eq_true c33
                    clear c33
                    by_cases c34 : (ji32) < (x11_3.length : Int)
                    ·rw [if_pos c34] at H
                     have c34b0 : decide ((ji32) < (x11_3.length : Int)) = true := decide_eq_true c34
                     clear c34
                     obtain ⟨y131, hy131⟩ : ∃ y_ : List Int, y_ = (y128.set ((ji32) : Int).toNat (Int.tmod (wrap64 ((rd y128 (ji32)) + (rd x10_2 x12_3))) a0_0)) := ⟨_, rfl⟩
                     replace H : (if x12_3 > 0 then (if 0 ≤ (wrap64 (x12_3 - 1)) then (if (wrap64 (x12_3 - 1)) < (x11_3.length : Int) then (if x12_3 < (l0_2.length : Int) then (spec_l09Sums.l1 k3 x1_2 a3 a0_0 x10_2 (y131.set ((wrap64 (x12_3 - 1)) : Int).toNat (Int.tmod (wrap64 ((rd y131 (wrap64 (x12_3 - 1))) + (wrap64 ((rd x10_2 x12_3) * (rd l0_2 x12_3))))) a0_0)) ji32 a0_0 l0_1 l0_2) else (none)) else (none)) else (none)) else (spec_l09Sums.l1 k3 x1_2 a3 a0_0 x10_2 y131 ji32 a0_0 l0_1 l0_2)) = some r := by first | (rw [hy131]; with_reducible exact H) | (have H2_ := (Option.bind_some _ _).symm.trans H; rw [hy131]; with_reducible exact H2_) | (have H2_ := (Option.bind_some _ _).symm.trans H; with_reducible exact H2_) | with_reducible exact H | (rw [hy131]; exact H) | exact H
                     have Ny131 := Aside0.mk hy131
                     clear hy131
                     by_cases c36 : x12_3 > 0
                     ·rw [if_pos c36] at H
                      have c36b0 : decide (0 < x12_3) = true := decide_eq_true c36
                      clear c36
                      obtain ⟨ji37, hji37⟩ : ∃ j_ : Int, (wrap64 (x12_3 - 1)) = j_ := ⟨_, rfl⟩
                      replace H : (if 0 ≤ (ji37) then (if (ji37) < (x11_3.length : Int) then (if x12_3 < (l0_2.length : Int) then (spec_l09Sums.l1 k3 x1_2 a3 a0_0 x10_2 (y131.set ((ji37) : Int).toNat (Int.tmod (wrap64 ((rd y131 (ji37)) + (wrap64 ((rd x10_2 x12_3) * (rd l0_2 x12_3))))) a0_0)) ji32 a0_0 l0_1 l0_2) else (none)) else (none)) else (none)) = some r := by first | (rw [hji37] at H; exact H) | (simp only [hji37] at H ⊢; exact H)
                      have hji37w : (IntKind.i64.wrap (x12_3 - 1)) = ji37 := (i64_w _).trans hji37
                      by_cases c38 : 0 ≤ (ji37)
                      ·rw [if_pos c38] at H
                       have c38b0 : decide (0 ≤ (ji37)) = true := decide_eq_true c38
                       clear c38
                       by_cases c39 : (ji37) < (x11_3.length : Int)
                       ·rw [if_pos c39] at H
                        have c39b0 : decide ((ji37) < (x11_3.length : Int)) = true := decide_eq_true c39
                        clear c39
                        by_cases c40 : x12_3 < (l0_2.length : Int)
                        ·rw [if_pos c40] at H
                         have c40b0 : decide (x12_3 < (l0_2.length : Int)) = true := decide_eq_true c40
                         clear c40
                         obtain ⟨y135, hy135⟩ : ∃ y_ : List Int, y_ = (y131.set ((ji37) : Int).toNat (Int.tmod (wrap64 ((rd y131 (ji37)) + (wrap64 ((rd x10_2 x12_3) * (rd l0_2 x12_3))))) a0_0)) := ⟨_, rfl⟩
                         replace H : (spec_l09Sums.l1 k3 x1_2 a3 a0_0 x10_2 y135 ji32 a0_0 l0_1 l0_2) = some r := by first | (rw [hy135]; with_reducible exact H) | (have H2_ := (Option.bind_some _ _).symm.trans H; rw [hy135]; with_reducible exact H2_) | (have H2_ := (Option.bind_some _ _).symm.trans H; with_reducible exact H2_) | with_reducible exact H | (rw [hy135]; exact H) | exact H
                         have Ny135 := Aside0.mk hy135
                         clear hy135
                         have H' := Aside0.mk H
                         clear H
                         try go_wp2
                         have n0_ := Aside0.mk (Kd.R_drew HO_10.out)
                         have n1_ := Aside0.mk (Kd.R_drew HO_11.out)
                         have n2_ := Aside0.mk (blk_drew BK117.out)
                         have n3_ := Aside0.mk (below_drew1 HB.out)
                         clear HO_10
                         clear HO_11
                         clear BK117
                         clear HB
                         have HO_10 := n0_
                         have HO_11 := n1_
                         have BK117 := n2_
                         have HB := n3_
                         clear n0_ n1_ n2_ n3_
                         obtain ⟨Ao43, co43, eo43⟩ := Kd.R_slice HO_11.out
                         (first | subst eo43 | (injection eo43 with f1_ f2_ f3_; have f4_ := f1_.symm; have f5_ := f3_.symm; clear f1_ f2_ f3_; subst f4_; subst f5_))
                         have p125 : 0 ≤ (x12_3 : Int) := of_decide_eq_true (by first | (with_reducible assumption) | assumption)
                         have q125 : x12_3 < (x11_3.length : Int) := of_decide_eq_true (by first | (with_reducible assumption) | assumption)
                         obtain ⟨ad125, e125, hx125_0⟩ := Kd.at_int (Kd.R_reads' HO_11.out).2.2 x12_3 p125 q125
                         cases e125
                         replace p125 := eq_true p125
                         replace q125 := eq_true q125
                         obtain ⟨Ao44, co44, eo44⟩ := Kd.R_slice HO_10.out
                         (first | subst eo44 | (injection eo44 with f1_ f2_ f3_; have f4_ := f1_.symm; have f5_ := f3_.symm; clear f1_ f2_ f3_; subst f4_; subst f5_))
                         have p126 : 0 ≤ (x12_3 : Int) := of_decide_eq_true (by first | (with_reducible assumption) | assumption)
                         have q126 : x12_3 < (x10_2.length : Int) := of_decide_eq_true (by first | (with_reducible assumption) | assumption)
                         obtain ⟨ad126, e126, hx126_0⟩ := Kd.at_int (Kd.R_reads' HO_10.out).2.2 x12_3 p126 q126
                         cases e126
                         replace p126 := eq_true p126
                         replace q126 := eq_true q126
                         have p127 : 0 ≤ (x12_3 : Int) := of_decide_eq_true (by first | (with_reducible assumption) | assumption)
                         have q127 : x12_3 < (l0_1.length : Int) := of_decide_eq_true (by first | (with_reducible assumption) | assumption)
                         obtain ⟨ad127, e127, hx127_0⟩ := Kd.at_int HR0_1.out x12_3 p127 q127
                         have hw127_0 := hx127_0
                         cases e127
                         replace hx127_0 := (HB.out.cell (World.block_lt_of_cell? w _ hx127_0)).trans hx127_0
                         replace p127 := eq_true p127
                         replace q127 := eq_true q127
                         have p30 : 0 ≤ (x12_3 : Int) := of_decide_eq_true (by first | (with_reducible assumption) | assumption)
                         have q30 : (x12_3 : Int) < ((x11_3.length : Int) : Int) := of_decide_eq_true (by first | (with_reducible assumption) | assumption)
                         obtain ⟨go30, co30, eo30, gb30, gl30, cl30, HG30⟩ := Kd.R_form HO_11.out (by omega)
                         (first | cases eo30 | (injection eo30 with ea_ en_ ec_; (first | subst ea_ | (injection ea_ with ea_; subst ea_)); subst ec_; clear en_))
                         have GB30 := Aside0.mk gb30
                         have GG30 := Aside0.mk HG30
                         clear gb30 gl30 HG30
                         (first | simp only [add_plain] at hx125_0 | skip)
                         obtain ⟨hx30_0, hf30_0⟩ := Kd.R_celln 0 HO_11.out (x12_3 : Int) p30 q30
                         replace p30 := eq_true p30
                         replace q30 := eq_true q30
                         have HP45 := Kd.R_putn HO_11.out (x12_3 : Int) (Int.tmod (wrap64 ((rd x11_3 x12_3) + (wrap64 ((rd x10_2 x12_3) * (rd l0_1 x12_3))))) a0_0)
                         rw [← Ny128.out] at HP45
                         have HQ45 := Aside0.mk HP45
                         clear HP45
                         refine start_ (n := 21) (S := fun w' => w'.cell? ⟨gb117, 0, none⟩ = some (.int .i64 a0_0) ∧ w'.cell? ⟨gb117, 1, none⟩ = some (.slice (some ad127) l0_1.length c0_1) ∧ w'.cell? ⟨gb117, 2, none⟩ = some (.slice A0_2 l0_2.length c0_2) ∧ w'.cell? ⟨go30, (x12_3).toNat, none⟩ = some (.int .i64 (rd x11_3 x12_3)) ∧ w'.cell? (ad126.add (x12_3).toNat) = some (.int .i64 (rd x10_2 x12_3)) ∧ w'.cell? (ad127.add (x12_3).toNat) = some (.int .i64 (rd l0_1 x12_3))) (ds := [20]) #[false, false, false, false, false, false, false, false, false, false, false, false, false, false, false, false, false, false, false, false, false] (by kernel_rfl) rfl rfl ⟨(blk_cell BK117.out 0).trans rfl, (blk_cell BK117.out 1).trans rfl, (blk_cell BK117.out 2).trans rfl, hx125_0, hx126_0, ((HB.out.cell (World.block_lt_of_cell? w _ hw127_0)).trans hw127_0)⟩ (fun hHeld => ?_); refine with_tabW spec_l09Sums.tab11 spec_l09Sums.bits11 (fun HT_ HW_ => ?_)
                         generalize wr.drew = w42 at HO_10 HO_11 BK117 HB GG30 HQ45 hf30_0 hx125_0 hx126_0 hx127_0 hx30_0 hHeld ⊢
                         refine Zpt 0 (some 36) (h := ?_)
                         refine Zpt 1 (some 37) (h := ?_)
                         refine Zpt 2 (some 38) (h := ?_)
                         refine Zpt 3 (some 39) (h := ?_)
                         refine Zpt 4 (some 40) (h := ?_)
                         refine Zpt 6 (some 42) (h := ?_)
                         refine Zpt 7 (some 43) (h := ?_)
                         refine Zpt 8 (some 44) (h := ?_)
                         refine Zpt 10 (some 46) (h := ?_)
                         refine Zpt 12 (some 48) (h := ?_)
                         refine Zpt 17 (some 53) (h := ?_)
                         refine ZtW6 5 (some 41) hHeld (h := ?_)
                         refine ZtW6 9 (some 45) hHeld (h := ?_)
                         refine ZtW6 11 (some 47) hHeld (h := ?_)
                         refine Zpt 13 (some 49) (h := ?_)
                         refine ZtW6 14 (some 50) hHeld (h := ?_)
                         refine Zpt 15 (some 51) (h := ?_)
                         refine Zpt 16 (some 52) (h := ?_)
                         refine Zpt 18 (some 54) (h := ?_)
                         refine Zpt 19 (some 55) (h := ?_)
                         refine last_ (i := 20) (N := none) #[true, true, true, true, true, true, true, true, true, true, true, true, true, true, true, true, true, true, true, true, true] rfl rfl (one_of HT_.out (by kernel_rfl)) (by decide) (fun K hK => ?_)
                         refine skip_ (w1 := ?_) (by rfl) rfl ?_ ?_
                         rotate_left
                         ·go_simp
                          rfl
                         refine hK.out _ _ ?_
                         clear hK K
                         refine done_ (done_of HT_.out (by kernel_rfl)) ?_
                         try go_wp2
                         have n0_ : Aside0 (Kd.R (Kd.int .i64) 2 (w42.setCell ⟨go30, (x12_3 : Int).toNat, none⟩ (.int .i64 (Int.tmod (wrap64 ((rd x11_3 x12_3) + (wrap64 ((rd x10_2 x12_3) * (rd l0_1 x12_3))))) a0_0))) w.heap.size (fun k_ => some k_ ≠ (.slice (some ⟨go30, 0, none⟩) x11_3.length co43 : Value).ownBlock) (.slice (some ad126) x10_2.length co44) x10_2) := ⟨by refine ZQ ?_; exact Kd.R_mono (Kd.R_far (p := ⟨go30, (x12_3 : Int).toNat, none⟩) (Kd.R_mono HO_10.out (fun k_ hk => (⟨hk, fun e_ => hk (by rw [e_]; rfl)⟩ : _ ∧ k_ ≠ go30))) (fun _ hk => hk.2) (.int .i64 (Int.tmod (wrap64 ((rd x11_3 x12_3) + (wrap64 ((rd x10_2 x12_3) * (rd l0_1 x12_3))))) a0_0))) (fun _ hk => hk.1)⟩
                         have n1_ : Aside0 (Kd.R (Kd.int .i64) 2 (w42.setCell ⟨go30, (x12_3 : Int).toNat, none⟩ (.int .i64 (Int.tmod (wrap64 ((rd x11_3 x12_3) + (wrap64 ((rd x10_2 x12_3) * (rd l0_1 x12_3))))) a0_0))) w.heap.size (fun k_ => some k_ ≠ (.slice (some ad126) x10_2.length co44 : Value).ownBlock) (.slice (some ⟨go30, 0, none⟩) x11_3.length co43) y128) := ⟨ZR HQ45⟩
                         have n2_ : Aside0 ((w42.setCell ⟨go30, (x12_3 : Int).toNat, none⟩ (.int .i64 (Int.tmod (wrap64 ((rd x11_3 x12_3) + (wrap64 ((rd x10_2 x12_3) * (rd l0_1 x12_3))))) a0_0))).heap[gb117]? = some (.cells #[.int .i64 a0_0, .slice (some ad127) l0_1.length c0_1, .slice A0_2 l0_2.length c0_2] 29 (0, 0))) := ⟨by refine ZS ?_; refine blk_far ?_ (by have h_ := Kd.R_ne HO_11.out BK117.out (by decide); intro e_; exact h_ (by rw [e_]; rfl)) _; refine ZS ?_; exact BK117.out⟩
                         have n3_ : Aside0 (Below w.heap.size w (w42.setCell ⟨go30, (x12_3 : Int).toNat, none⟩ (.int .i64 (Int.tmod (wrap64 ((rd x11_3 x12_3) + (wrap64 ((rd x10_2 x12_3) * (rd l0_1 x12_3))))) a0_0)))) := ⟨by repeat (first | (with_reducible first | exact HB.out | apply below_alloc | apply pw_below_drewN | apply below_drew1 | refine below_set ?_ GB30.out | refine below_set ?_ GE117.out) | exact HB.out)⟩
                         (try clear HO_10)
                         (try clear HO_11)
                         (try clear BK117)
                         (try clear HB)
                         generalize (w42.setCell ⟨go30, (x12_3 : Int).toNat, none⟩ (.int .i64 (Int.tmod (wrap64 ((rd x11_3 x12_3) + (wrap64 ((rd x10_2 x12_3) * (rd l0_1 x12_3))))) a0_0))) = w46 at n0_ n1_ n2_ n3_ ⊢
                         have HO_10 := n0_
                         have HO_11 := n1_
                         have BK117 := n2_
                         have HB := n3_
                         clear n0_ n1_ n2_ n3_
                         have n0_ := Aside0.mk (Kd.R_drew HO_10.out)
                         have n1_ := Aside0.mk (Kd.R_drew HO_11.out)
                         have n2_ := Aside0.mk (blk_drew BK117.out)
                         have n3_ := Aside0.mk (below_drew1 HB.out)
                         clear HO_10
                         clear HO_11
                         clear BK117
                         clear HB
                         have HO_10 := n0_
                         have HO_11 := n1_
                         have BK117 := n2_
                         have HB := n3_
                         clear n0_ n1_ n2_ n3_
                         have p129 : 0 ≤ ((ji32) : Int) := of_decide_eq_true (by first | (with_reducible assumption) | assumption)
                         have q129 : (ji32) < (y128.length : Int) := (by have h_ : ((ji32) : Int) < ((x11_3.length : Int) : Int) := of_decide_eq_true (by first | (with_reducible assumption) | assumption); first | (have e_ := (Kd.R_reads' HO_11.out).1; omega) | simpa only [Ny128.out, List.length_set] using h_)
                         have ql129 : (((ji32) : Int) < ((x11_3.length : Int) : Int)) = True := eq_true (of_decide_eq_true (by first | (with_reducible assumption) | assumption))
                         obtain ⟨ad129, e129, hx129_0⟩ := Kd.at_int (Kd.R_reads' HO_11.out).2.2 (ji32) p129 q129
                         obtain rfl : (⟨go30, 0, none⟩ : Addr) = ad129 := (by injection e129)
                         (first | simp only [add_plain] at hx129_0 | simp only [add_at] at hx129_0 | simp only [Addr.add, Nat.zero_add] at hx129_0 | skip)
                         replace p129 := eq_true p129
                         replace q129 := eq_true q129
                         have p130 : 0 ≤ (x12_3 : Int) := of_decide_eq_true (by first | (with_reducible assumption) | assumption)
                         have q130 : x12_3 < (x10_2.length : Int) := of_decide_eq_true (by first | (with_reducible assumption) | assumption)
                         obtain ⟨ad130, e130, hx130_0⟩ := Kd.at_int (Kd.R_reads' HO_10.out).2.2 x12_3 p130 q130
                         obtain rfl : ad126 = ad130 := (by injection e130)
                         replace p130 := eq_true p130
                         replace q130 := eq_true q130
                         have p35 : 0 ≤ ((ji32) : Int) := of_decide_eq_true (by first | (with_reducible assumption) | assumption)
                         have q35 : ((ji32) : Int) < ((x11_3.length : Int) : Int) := of_decide_eq_true (by first | (with_reducible assumption) | assumption)
                         obtain ⟨hx35_0, hf35_0⟩ := Kd.R_celln 0 HO_11.out ((ji32) : Int) p35 q35
                         replace p35 := eq_true p35
                         replace q35 := eq_true q35
                         have HP48 := Kd.R_putn HO_11.out ((ji32) : Int) (Int.tmod (wrap64 ((rd y128 (ji32)) + (rd x10_2 x12_3))) a0_0)
                         rw [← Ny131.out] at HP48
                         have HQ48 := Aside0.mk HP48
                         clear HP48
                         refine start_ (n := 17) (S := fun w' => w'.cell? ⟨go30, ((ji32)).toNat, none⟩ = some (.int .i64 (rd y128 (ji32))) ∧ w'.cell? (ad126.add (x12_3).toNat) = some (.int .i64 (rd x10_2 x12_3))) (ds := [16]) #[false, false, false, false, false, false, false, false, false, false, false, false, false, false, false, false, false] (by kernel_rfl) rfl rfl ⟨hx129_0, hx130_0⟩ (fun hHeld => ?_); refine with_tabW spec_l09Sums.tab13 spec_l09Sums.bits13 (fun HT_ HW_ => ?_)
                         generalize w46.drew = w47 at HO_10 HO_11 BK117 HB HQ45 HQ48 hf35_0 hx129_0 hx130_0 hx35_0 hHeld ⊢
                         refine Zpt 0 (some 60) (h := ?_)
                         refine Zpt 1 (some 61) (h := ?_)
                         refine Zpt 2 (some 62) (h := ?_)
                         refine Zpt 3 (some 63) (h := ?_)
                         refine Zpt 4 (some 64) (h := ?_)
                         refine Zpt 5 (some 65) (h := ?_)
                         refine Zpt 6 (some 66) (h := ?_)
                         refine Zpt 8 (some 68) (h := ?_)
                         refine Zpt 9 (some 69) (h := ?_)
                         refine Zpt 10 (some 70) (h := ?_)
                         refine Zpt 13 (some 73) (h := ?_)
                         refine ZtW2 7 (some 67) hHeld (h := ?_)
                         refine ZtW2 11 (some 71) hHeld (h := ?_)
                         refine Zpt 12 (some 72) (h := ?_)
                         refine Zpt 14 (some 74) (h := ?_)
                         refine Zpt 15 (some 75) (h := ?_)
                         refine last_ (i := 16) (N := none) #[true, true, true, true, true, true, true, true, true, true, true, true, true, true, true, true, true] rfl rfl (one_of HT_.out (by kernel_rfl)) (by decide) (fun K hK => ?_)
                         refine skip_ (w1 := ?_) (by rfl) rfl ?_ ?_
                         rotate_left
                         ·go_simp
                          rfl
                         refine hK.out _ _ ?_
                         clear hK K
                         refine done_ (done_of HT_.out (by kernel_rfl)) ?_
                         try go_wp2
                         have n0_ : Aside0 (Kd.R (Kd.int .i64) 2 (w47.setCell ⟨go30, ((ji32) : Int).toNat, none⟩ (.int .i64 (Int.tmod (wrap64 ((rd y128 (ji32)) + (rd x10_2 x12_3))) a0_0))) w.heap.size (fun k_ => some k_ ≠ (.slice (some ⟨go30, 0, none⟩) x11_3.length co43 : Value).ownBlock) (.slice (some ad126) x10_2.length co44) x10_2) := ⟨by refine ZQ ?_; exact Kd.R_mono (Kd.R_far (p := ⟨go30, ((ji32) : Int).toNat, none⟩) (Kd.R_mono HO_10.out (fun k_ hk => (⟨hk, fun e_ => hk (by rw [e_]; rfl)⟩ : _ ∧ k_ ≠ go30))) (fun _ hk => hk.2) (.int .i64 (Int.tmod (wrap64 ((rd y128 (ji32)) + (rd x10_2 x12_3))) a0_0))) (fun _ hk => hk.1)⟩
                         have n1_ : Aside0 (Kd.R (Kd.int .i64) 2 (w47.setCell ⟨go30, ((ji32) : Int).toNat, none⟩ (.int .i64 (Int.tmod (wrap64 ((rd y128 (ji32)) + (rd x10_2 x12_3))) a0_0))) w.heap.size (fun k_ => some k_ ≠ (.slice (some ad126) x10_2.length co44 : Value).ownBlock) (.slice (some ⟨go30, 0, none⟩) x11_3.length co43) y131) := ⟨ZR HQ48⟩
                         have n2_ : Aside0 ((w47.setCell ⟨go30, ((ji32) : Int).toNat, none⟩ (.int .i64 (Int.tmod (wrap64 ((rd y128 (ji32)) + (rd x10_2 x12_3))) a0_0))).heap[gb117]? = some (.cells #[.int .i64 a0_0, .slice (some ad127) l0_1.length c0_1, .slice A0_2 l0_2.length c0_2] 29 (0, 0))) := ⟨by refine ZS ?_; refine blk_far ?_ (by have h_ := Kd.R_ne HO_11.out BK117.out (by decide); intro e_; exact h_ (by rw [e_]; rfl)) _; refine ZS ?_; exact BK117.out⟩
                         have n3_ : Aside0 (Below w.heap.size w (w47.setCell ⟨go30, ((ji32) : Int).toNat, none⟩ (.int .i64 (Int.tmod (wrap64 ((rd y128 (ji32)) + (rd x10_2 x12_3))) a0_0)))) := ⟨by repeat (first | (with_reducible first | exact HB.out | apply below_alloc | apply pw_below_drewN | apply below_drew1 | refine below_set ?_ GB30.out | refine below_set ?_ GE117.out) | exact HB.out)⟩
                         (try clear HO_10)
                         (try clear HO_11)
                         (try clear BK117)
                         (try clear HB)
                         generalize (w47.setCell ⟨go30, ((ji32) : Int).toNat, none⟩ (.int .i64 (Int.tmod (wrap64 ((rd y128 (ji32)) + (rd x10_2 x12_3))) a0_0))) = w49 at n0_ n1_ n2_ n3_ ⊢
                         have HO_10 := n0_
                         have HO_11 := n1_
                         have BK117 := n2_
                         have HB := n3_
                         clear n0_ n1_ n2_ n3_
                         have n0_ := Aside0.mk (Kd.R_drew HO_10.out)
                         have n1_ := Aside0.mk (Kd.R_drew HO_11.out)
                         have n2_ := Aside0.mk (blk_drew BK117.out)
                         have n3_ := Aside0.mk (below_drew1 HB.out)
                         clear HO_10
                         clear HO_11
                         clear BK117
                         clear HB
                         have HO_10 := n0_
                         have HO_11 := n1_
                         have BK117 := n2_
                         have HB := n3_
                         clear n0_ n1_ n2_ n3_
                         have p132 : 0 ≤ ((ji37) : Int) := of_decide_eq_true (by first | (with_reducible assumption) | assumption)
                         have q132 : (ji37) < (y131.length : Int) := (by have h_ : ((ji37) : Int) < ((x11_3.length : Int) : Int) := of_decide_eq_true (by first | (with_reducible assumption) | assumption); first | (have e_ := (Kd.R_reads' HO_11.out).1; omega) | simpa only [Ny128.out, Ny131.out, List.length_set] using h_)
                         have ql132 : (((ji37) : Int) < ((x11_3.length : Int) : Int)) = True := eq_true (of_decide_eq_true (by first | (with_reducible assumption) | assumption))
                         obtain ⟨ad132, e132, hx132_0⟩ := Kd.at_int (Kd.R_reads' HO_11.out).2.2 (ji37) p132 q132
                         obtain rfl : (⟨go30, 0, none⟩ : Addr) = ad132 := (by injection e132)
                         (first | simp only [add_plain] at hx132_0 | simp only [add_at] at hx132_0 | simp only [Addr.add, Nat.zero_add] at hx132_0 | skip)
                         replace p132 := eq_true p132
                         replace q132 := eq_true q132
                         have p133 : 0 ≤ (x12_3 : Int) := of_decide_eq_true (by first | (with_reducible assumption) | assumption)
                         have q133 : x12_3 < (x10_2.length : Int) := of_decide_eq_true (by first | (with_reducible assumption) | assumption)
                         obtain ⟨ad133, e133, hx133_0⟩ := Kd.at_int (Kd.R_reads' HO_10.out).2.2 x12_3 p133 q133
                         obtain rfl : ad126 = ad133 := (by injection e133)
                         replace p133 := eq_true p133
                         replace q133 := eq_true q133
                         have p134 : 0 ≤ (x12_3 : Int) := of_decide_eq_true (by first | (with_reducible assumption) | assumption)
                         have q134 : x12_3 < (l0_2.length : Int) := of_decide_eq_true (by first | (with_reducible assumption) | assumption)
                         obtain ⟨ad134, e134, hx134_0⟩ := Kd.at_int HR0_2.out x12_3 p134 q134
                         have hw134_0 := hx134_0
                         cases e134
                         replace hx134_0 := (HB.out.cell (World.block_lt_of_cell? w _ hx134_0)).trans hx134_0
                         replace p134 := eq_true p134
                         replace q134 := eq_true q134
                         have p41 : 0 ≤ ((ji37) : Int) := of_decide_eq_true (by first | (with_reducible assumption) | assumption)
                         have q41 : ((ji37) : Int) < ((x11_3.length : Int) : Int) := of_decide_eq_true (by first | (with_reducible assumption) | assumption)
                         obtain ⟨hx41_0, hf41_0⟩ := Kd.R_celln 0 HO_11.out ((ji37) : Int) p41 q41
                         replace p41 := eq_true p41
                         replace q41 := eq_true q41
                         have HP51 := Kd.R_putn HO_11.out ((ji37) : Int) (Int.tmod (wrap64 ((rd y131 (ji37)) + (wrap64 ((rd x10_2 x12_3) * (rd l0_2 x12_3))))) a0_0)
                         rw [← Ny135.out] at HP51
                         have HQ51 := Aside0.mk HP51
                         clear HP51
                         refine start_ (n := 23) (S := fun w' => w'.cell? ⟨gb117, 0, none⟩ = some (.int .i64 a0_0) ∧ w'.cell? ⟨gb117, 1, none⟩ = some (.slice (some ad127) l0_1.length c0_1) ∧ w'.cell? ⟨gb117, 2, none⟩ = some (.slice (some ad134) l0_2.length c0_2) ∧ w'.cell? ⟨go30, ((ji37)).toNat, none⟩ = some (.int .i64 (rd y131 (ji37))) ∧ w'.cell? (ad126.add (x12_3).toNat) = some (.int .i64 (rd x10_2 x12_3)) ∧ w'.cell? (ad134.add (x12_3).toNat) = some (.int .i64 (rd l0_2 x12_3))) (ds := [22]) #[false, false, false, false, false, false, false, false, false, false, false, false, false, false, false, false, false, false, false, false, false, false, false] (by kernel_rfl) rfl rfl ⟨(blk_cell BK117.out 0).trans rfl, (blk_cell BK117.out 1).trans rfl, (blk_cell BK117.out 2).trans rfl, hx132_0, hx133_0, ((HB.out.cell (World.block_lt_of_cell? w _ hw134_0)).trans hw134_0)⟩ (fun hHeld => ?_); refine with_tabW spec_l09Sums.tab15 spec_l09Sums.bits15 (fun HT_ HW_ => ?_)
                         generalize w49.drew = w50 at HO_10 HO_11 BK117 HB HQ48 HQ51 hf41_0 hx132_0 hx133_0 hx134_0 hx41_0 hHeld ⊢
                         refine Zpt 0 (some 78) (h := ?_)
                         refine Zpt 1 (some 79) (h := ?_)
                         refine Zpt 2 (some 80) (h := ?_)
                         refine Zpt 3 (some 81) (h := ?_)
                         refine Zpt 4 (some 82) (h := ?_)
                         refine Zpt 5 (some 83) (h := ?_)
                         refine Zpt 6 (some 84) (h := ?_)
                         refine Zpt 8 (some 86) (h := ?_)
                         refine Zpt 9 (some 87) (h := ?_)
                         refine Zpt 10 (some 88) (h := ?_)
                         refine Zpt 12 (some 90) (h := ?_)
                         refine Zpt 14 (some 92) (h := ?_)
                         refine Zpt 19 (some 97) (h := ?_)
                         refine ZtW6 7 (some 85) hHeld (h := ?_)
                         refine ZtW6 11 (some 89) hHeld (h := ?_)
                         refine ZtW6 13 (some 91) hHeld (h := ?_)
                         refine Zpt 15 (some 93) (h := ?_)
                         refine ZtW6 16 (some 94) hHeld (h := ?_)
                         refine Zpt 17 (some 95) (h := ?_)
                         refine Zpt 18 (some 96) (h := ?_)
                         refine Zpt 20 (some 98) (h := ?_)
                         refine Zpt 21 (some 99) (h := ?_)
                         refine last_ (i := 22) (N := none) #[true, true, true, true, true, true, true, true, true, true, true, true, true, true, true, true, true, true, true, true, true, true, true] rfl rfl (one_of HT_.out (by kernel_rfl)) (by decide) (fun K hK => ?_)
                         refine skip_ (w1 := ?_) (by rfl) rfl ?_ ?_
                         rotate_left
                         ·go_simp
                          rfl
                         refine hK.out _ _ ?_
                         clear hK K
                         refine done_ (done_of HT_.out (by kernel_rfl)) ?_
                         try go_wp2
                         go_roundg k3
                         case measure => have := HJ6.out; have := HK2.out; have := HK3.out; omega
                         case rel => exact ⟨(y135), (ji32), (by first | rfl | (simp; done) | (simp only [← hji32] <;> (first | rfl | simp)) | (simp [*]; done)), H', ⟨by have := HJ6.out; have := HK2.out; have := HK3.out; omega⟩, ⟨by refine ZQ ?_; exact Kd.R_mono (Kd.R_far (p := ⟨go30, ((ji37) : Int).toNat, none⟩) (Kd.R_mono HO_10.out (fun k_ hk => (⟨hk, fun e_ => hk (by rw [e_]; rfl)⟩ : _ ∧ k_ ≠ go30))) (fun _ hk => hk.2) (.int .i64 (Int.tmod (wrap64 ((rd y131 (ji37)) + (wrap64 ((rd x10_2 x12_3) * (rd l0_2 x12_3))))) a0_0))) (fun _ hk => hk.1)⟩, ⟨ZR HQ51⟩, ⟨by refine ZS ?_; refine blk_far ?_ (by have h_ := Kd.R_ne HO_11.out BK117.out (by decide); intro e_; exact h_ (by rw [e_]; rfl)) _; refine ZS ?_; exact BK117.out⟩, ⟨by repeat (first | (with_reducible first | exact HB.out | apply below_alloc | apply pw_below_drewN | apply below_drew1 | refine below_set ?_ GB30.out | refine below_set ?_ GE117.out) | exact HB.out)⟩⟩
                        ·rw [if_neg c40] at H
                         exact absurd H (by simp)
                       ·rw [if_neg c39] at H
                        exact absurd H (by simp)
                      ·rw [if_neg c38] at H
                       exact absurd H (by simp)
                     ·rw [if_neg c36] at H
                      have c36b0 : decide (0 < x12_3) = false := decide_eq_false c36
                      clear c36
                      have H' := Aside0.mk H
                      clear H
                      try go_wp2
                      have n0_ := Aside0.mk (Kd.R_drew HO_10.out)
                      have n1_ := Aside0.mk (Kd.R_drew HO_11.out)
                      have n2_ := Aside0.mk (blk_drew BK117.out)
                      have n3_ := Aside0.mk (below_drew1 HB.out)
                      clear HO_10
                      clear HO_11
                      clear BK117
                      clear HB
                      have HO_10 := n0_
                      have HO_11 := n1_
                      have BK117 := n2_
                      have HB := n3_
                      clear n0_ n1_ n2_ n3_
                      obtain ⟨Ao53, co53, eo53⟩ := Kd.R_slice HO_11.out
                      (first | subst eo53 | (injection eo53 with f1_ f2_ f3_; have f4_ := f1_.symm; have f5_ := f3_.symm; clear f1_ f2_ f3_; subst f4_; subst f5_))
                      have p125 : 0 ≤ (x12_3 : Int) := of_decide_eq_true (by first | (with_reducible assumption) | assumption)
                      have q125 : x12_3 < (x11_3.length : Int) := of_decide_eq_true (by first | (with_reducible assumption) | assumption)
                      obtain ⟨ad125, e125, hx125_0⟩ := Kd.at_int (Kd.R_reads' HO_11.out).2.2 x12_3 p125 q125
                      cases e125
                      replace p125 := eq_true p125
                      replace q125 := eq_true q125
                      obtain ⟨Ao54, co54, eo54⟩ := Kd.R_slice HO_10.out
                      (first | subst eo54 | (injection eo54 with f1_ f2_ f3_; have f4_ := f1_.symm; have f5_ := f3_.symm; clear f1_ f2_ f3_; subst f4_; subst f5_))
                      have p126 : 0 ≤ (x12_3 : Int) := of_decide_eq_true (by first | (with_reducible assumption) | assumption)
                      have q126 : x12_3 < (x10_2.length : Int) := of_decide_eq_true (by first | (with_reducible assumption) | assumption)
                      obtain ⟨ad126, e126, hx126_0⟩ := Kd.at_int (Kd.R_reads' HO_10.out).2.2 x12_3 p126 q126
                      cases e126
                      replace p126 := eq_true p126
                      replace q126 := eq_true q126
                      have p127 : 0 ≤ (x12_3 : Int) := of_decide_eq_true (by first | (with_reducible assumption) | assumption)
                      have q127 : x12_3 < (l0_1.length : Int) := of_decide_eq_true (by first | (with_reducible assumption) | assumption)
                      obtain ⟨ad127, e127, hx127_0⟩ := Kd.at_int HR0_1.out x12_3 p127 q127
                      have hw127_0 := hx127_0
                      cases e127
                      replace hx127_0 := (HB.out.cell (World.block_lt_of_cell? w _ hx127_0)).trans hx127_0
                      replace p127 := eq_true p127
                      replace q127 := eq_true q127
                      have p30 : 0 ≤ (x12_3 : Int) := of_decide_eq_true (by first | (with_reducible assumption) | assumption)
                      have q30 : (x12_3 : Int) < ((x11_3.length : Int) : Int) := of_decide_eq_true (by first | (with_reducible assumption) | assumption)
                      obtain ⟨go30, co30, eo30, gb30, gl30, cl30, HG30⟩ := Kd.R_form HO_11.out (by omega)
                      (first | cases eo30 | (injection eo30 with ea_ en_ ec_; (first | subst ea_ | (injection ea_ with ea_; subst ea_)); subst ec_; clear en_))
                      have GB30 := Aside0.mk gb30
                      have GG30 := Aside0.mk HG30
                      clear gb30 gl30 HG30
                      (first | simp only [add_plain] at hx125_0 | skip)
                      obtain ⟨hx30_0, hf30_0⟩ := Kd.R_celln 0 HO_11.out (x12_3 : Int) p30 q30
                      replace p30 := eq_true p30
                      replace q30 := eq_true q30
                      have HP55 := Kd.R_putn HO_11.out (x12_3 : Int) (Int.tmod (wrap64 ((rd x11_3 x12_3) + (wrap64 ((rd x10_2 x12_3) * (rd l0_1 x12_3))))) a0_0)
                      rw [← Ny128.out] at HP55
                      have HQ55 := Aside0.mk HP55
                      clear HP55
                      refine start_ (n := 21) (S := fun w' => w'.cell? ⟨gb117, 0, none⟩ = some (.int .i64 a0_0) ∧ w'.cell? ⟨gb117, 1, none⟩ = some (.slice (some ad127) l0_1.length c0_1) ∧ w'.cell? ⟨gb117, 2, none⟩ = some (.slice A0_2 l0_2.length c0_2) ∧ w'.cell? ⟨go30, (x12_3).toNat, none⟩ = some (.int .i64 (rd x11_3 x12_3)) ∧ w'.cell? (ad126.add (x12_3).toNat) = some (.int .i64 (rd x10_2 x12_3)) ∧ w'.cell? (ad127.add (x12_3).toNat) = some (.int .i64 (rd l0_1 x12_3))) (ds := [20]) #[false, false, false, false, false, false, false, false, false, false, false, false, false, false, false, false, false, false, false, false, false] (by kernel_rfl) rfl rfl ⟨(blk_cell BK117.out 0).trans rfl, (blk_cell BK117.out 1).trans rfl, (blk_cell BK117.out 2).trans rfl, hx125_0, hx126_0, ((HB.out.cell (World.block_lt_of_cell? w _ hw127_0)).trans hw127_0)⟩ (fun hHeld => ?_); refine with_tabW spec_l09Sums.tab11 spec_l09Sums.bits11 (fun HT_ HW_ => ?_)
                      generalize wr.drew = w52 at HO_10 HO_11 BK117 HB GG30 HQ55 hf30_0 hx125_0 hx126_0 hx127_0 hx30_0 hHeld ⊢
                      refine Zpt 0 (some 36) (h := ?_)
                      refine Zpt 1 (some 37) (h := ?_)
                      refine Zpt 2 (some 38) (h := ?_)
                      refine Zpt 3 (some 39) (h := ?_)
                      refine Zpt 4 (some 40) (h := ?_)
                      refine Zpt 6 (some 42) (h := ?_)
                      refine Zpt 7 (some 43) (h := ?_)
                      refine Zpt 8 (some 44) (h := ?_)
                      refine Zpt 10 (some 46) (h := ?_)
                      refine Zpt 12 (some 48) (h := ?_)
                      refine Zpt 17 (some 53) (h := ?_)
                      refine ZtW6 5 (some 41) hHeld (h := ?_)
                      refine ZtW6 9 (some 45) hHeld (h := ?_)
                      refine ZtW6 11 (some 47) hHeld (h := ?_)
                      refine Zpt 13 (some 49) (h := ?_)
                      refine ZtW6 14 (some 50) hHeld (h := ?_)
                      refine Zpt 15 (some 51) (h := ?_)
                      refine Zpt 16 (some 52) (h := ?_)
                      refine Zpt 18 (some 54) (h := ?_)
                      refine Zpt 19 (some 55) (h := ?_)
                      refine last_ (i := 20) (N := none) #[true, true, true, true, true, true, true, true, true, true, true, true, true, true, true, true, true, true, true, true, true] rfl rfl (one_of HT_.out (by kernel_rfl)) (by decide) (fun K hK => ?_)
                      refine skip_ (w1 := ?_) (by rfl) rfl ?_ ?_
                      rotate_left
                      ·go_simp
                       rfl
                      refine hK.out _ _ ?_
                      clear hK K
                      refine done_ (done_of HT_.out (by kernel_rfl)) ?_
                      try go_wp2
                      have n0_ : Aside0 (Kd.R (Kd.int .i64) 2 (w52.setCell ⟨go30, (x12_3 : Int).toNat, none⟩ (.int .i64 (Int.tmod (wrap64 ((rd x11_3 x12_3) + (wrap64 ((rd x10_2 x12_3) * (rd l0_1 x12_3))))) a0_0))) w.heap.size (fun k_ => some k_ ≠ (.slice (some ⟨go30, 0, none⟩) x11_3.length co53 : Value).ownBlock) (.slice (some ad126) x10_2.length co54) x10_2) := ⟨by refine ZQ ?_; exact Kd.R_mono (Kd.R_far (p := ⟨go30, (x12_3 : Int).toNat, none⟩) (Kd.R_mono HO_10.out (fun k_ hk => (⟨hk, fun e_ => hk (by rw [e_]; rfl)⟩ : _ ∧ k_ ≠ go30))) (fun _ hk => hk.2) (.int .i64 (Int.tmod (wrap64 ((rd x11_3 x12_3) + (wrap64 ((rd x10_2 x12_3) * (rd l0_1 x12_3))))) a0_0))) (fun _ hk => hk.1)⟩
                      have n1_ : Aside0 (Kd.R (Kd.int .i64) 2 (w52.setCell ⟨go30, (x12_3 : Int).toNat, none⟩ (.int .i64 (Int.tmod (wrap64 ((rd x11_3 x12_3) + (wrap64 ((rd x10_2 x12_3) * (rd l0_1 x12_3))))) a0_0))) w.heap.size (fun k_ => some k_ ≠ (.slice (some ad126) x10_2.length co54 : Value).ownBlock) (.slice (some ⟨go30, 0, none⟩) x11_3.length co53) y128) := ⟨ZR HQ55⟩
                      have n2_ : Aside0 ((w52.setCell ⟨go30, (x12_3 : Int).toNat, none⟩ (.int .i64 (Int.tmod (wrap64 ((rd x11_3 x12_3) + (wrap64 ((rd x10_2 x12_3) * (rd l0_1 x12_3))))) a0_0))).heap[gb117]? = some (.cells #[.int .i64 a0_0, .slice (some ad127) l0_1.length c0_1, .slice A0_2 l0_2.length c0_2] 29 (0, 0))) := ⟨by refine ZS ?_; refine blk_far ?_ (by have h_ := Kd.R_ne HO_11.out BK117.out (by decide); intro e_; exact h_ (by rw [e_]; rfl)) _; refine ZS ?_; exact BK117.out⟩
                      have n3_ : Aside0 (Below w.heap.size w (w52.setCell ⟨go30, (x12_3 : Int).toNat, none⟩ (.int .i64 (Int.tmod (wrap64 ((rd x11_3 x12_3) + (wrap64 ((rd x10_2 x12_3) * (rd l0_1 x12_3))))) a0_0)))) := ⟨by repeat (first | (with_reducible first | exact HB.out | apply below_alloc | apply pw_below_drewN | apply below_drew1 | refine below_set ?_ GB30.out | refine below_set ?_ GE117.out) | exact HB.out)⟩
                      (try clear HO_10)
                      (try clear HO_11)
                      (try clear BK117)
                      (try clear HB)
                      generalize (w52.setCell ⟨go30, (x12_3 : Int).toNat, none⟩ (.int .i64 (Int.tmod (wrap64 ((rd x11_3 x12_3) + (wrap64 ((rd x10_2 x12_3) * (rd l0_1 x12_3))))) a0_0))) = w56 at n0_ n1_ n2_ n3_ ⊢
                      have HO_10 := n0_
                      have HO_11 := n1_
                      have BK117 := n2_
                      have HB := n3_
                      clear n0_ n1_ n2_ n3_
                      have n0_ := Aside0.mk (Kd.R_drew HO_10.out)
                      have n1_ := Aside0.mk (Kd.R_drew HO_11.out)
                      have n2_ := Aside0.mk (blk_drew BK117.out)
                      have n3_ := Aside0.mk (below_drew1 HB.out)
                      clear HO_10
                      clear HO_11
                      clear BK117
                      clear HB
                      have HO_10 := n0_
                      have HO_11 := n1_
                      have BK117 := n2_
                      have HB := n3_
                      clear n0_ n1_ n2_ n3_
                      have p129 : 0 ≤ ((ji32) : Int) := of_decide_eq_true (by first | (with_reducible assumption) | assumption)
                      have q129 : (ji32) < (y128.length : Int) := (by have h_ : ((ji32) : Int) < ((x11_3.length : Int) : Int) := of_decide_eq_true (by first | (with_reducible assumption) | assumption); first | (have e_ := (Kd.R_reads' HO_11.out).1; omega) | simpa only [Ny128.out, List.length_set] using h_)
                      have ql129 : (((ji32) : Int) < ((x11_3.length : Int) : Int)) = True := eq_true (of_decide_eq_true (by first | (with_reducible assumption) | assumption))
                      obtain ⟨ad129, e129, hx129_0⟩ := Kd.at_int (Kd.R_reads' HO_11.out).2.2 (ji32) p129 q129
                      obtain rfl : (⟨go30, 0, none⟩ : Addr) = ad129 := (by injection e129)
                      (first | simp only [add_plain] at hx129_0 | simp only [add_at] at hx129_0 | simp only [Addr.add, Nat.zero_add] at hx129_0 | skip)
                      replace p129 := eq_true p129
                      replace q129 := eq_true q129
                      have p130 : 0 ≤ (x12_3 : Int) := of_decide_eq_true (by first | (with_reducible assumption) | assumption)
                      have q130 : x12_3 < (x10_2.length : Int) := of_decide_eq_true (by first | (with_reducible assumption) | assumption)
                      obtain ⟨ad130, e130, hx130_0⟩ := Kd.at_int (Kd.R_reads' HO_10.out).2.2 x12_3 p130 q130
                      obtain rfl : ad126 = ad130 := (by injection e130)
                      replace p130 := eq_true p130
                      replace q130 := eq_true q130
                      have p35 : 0 ≤ ((ji32) : Int) := of_decide_eq_true (by first | (with_reducible assumption) | assumption)
                      have q35 : ((ji32) : Int) < ((x11_3.length : Int) : Int) := of_decide_eq_true (by first | (with_reducible assumption) | assumption)
                      obtain ⟨hx35_0, hf35_0⟩ := Kd.R_celln 0 HO_11.out ((ji32) : Int) p35 q35
                      replace p35 := eq_true p35
                      replace q35 := eq_true q35
                      have HP58 := Kd.R_putn HO_11.out ((ji32) : Int) (Int.tmod (wrap64 ((rd y128 (ji32)) + (rd x10_2 x12_3))) a0_0)
                      rw [← Ny131.out] at HP58
                      have HQ58 := Aside0.mk HP58
                      clear HP58
                      refine start_ (n := 17) (S := fun w' => w'.cell? ⟨go30, ((ji32)).toNat, none⟩ = some (.int .i64 (rd y128 (ji32))) ∧ w'.cell? (ad126.add (x12_3).toNat) = some (.int .i64 (rd x10_2 x12_3))) (ds := [16]) #[false, false, false, false, false, false, false, false, false, false, false, false, false, false, false, false, false] (by kernel_rfl) rfl rfl ⟨hx129_0, hx130_0⟩ (fun hHeld => ?_); refine with_tabW spec_l09Sums.tab13 spec_l09Sums.bits13 (fun HT_ HW_ => ?_)
                      generalize w56.drew = w57 at HO_10 HO_11 BK117 HB HQ55 HQ58 hf35_0 hx129_0 hx130_0 hx35_0 hHeld ⊢
                      refine Zpt 0 (some 60) (h := ?_)
                      refine Zpt 1 (some 61) (h := ?_)
                      refine Zpt 2 (some 62) (h := ?_)
                      refine Zpt 3 (some 63) (h := ?_)
                      refine Zpt 4 (some 64) (h := ?_)
                      refine Zpt 5 (some 65) (h := ?_)
                      refine Zpt 6 (some 66) (h := ?_)
                      refine Zpt 8 (some 68) (h := ?_)
                      refine Zpt 9 (some 69) (h := ?_)
                      refine Zpt 10 (some 70) (h := ?_)
                      refine Zpt 13 (some 73) (h := ?_)
                      refine ZtW2 7 (some 67) hHeld (h := ?_)
                      refine ZtW2 11 (some 71) hHeld (h := ?_)
                      refine Zpt 12 (some 72) (h := ?_)
                      refine Zpt 14 (some 74) (h := ?_)
                      refine Zpt 15 (some 75) (h := ?_)
                      refine last_ (i := 16) (N := none) #[true, true, true, true, true, true, true, true, true, true, true, true, true, true, true, true, true] rfl rfl (one_of HT_.out (by kernel_rfl)) (by decide) (fun K hK => ?_)
                      refine skip_ (w1 := ?_) (by rfl) rfl ?_ ?_
                      rotate_left
                      ·go_simp
                       rfl
                      refine hK.out _ _ ?_
                      clear hK K
                      refine done_ (done_of HT_.out (by kernel_rfl)) ?_
                      try go_wp2
                      go_roundg k3
                      case measure => have := HJ6.out; have := HK2.out; have := HK3.out; omega
                      case rel => exact ⟨(y131), (ji32), (by first | rfl | (simp; done) | (simp only [← hji32] <;> (first | rfl | simp)) | (simp [*]; done)), H', ⟨by have := HJ6.out; have := HK2.out; have := HK3.out; omega⟩, ⟨by refine ZQ ?_; exact Kd.R_mono (Kd.R_far (p := ⟨go30, ((ji32) : Int).toNat, none⟩) (Kd.R_mono HO_10.out (fun k_ hk => (⟨hk, fun e_ => hk (by rw [e_]; rfl)⟩ : _ ∧ k_ ≠ go30))) (fun _ hk => hk.2) (.int .i64 (Int.tmod (wrap64 ((rd y128 (ji32)) + (rd x10_2 x12_3))) a0_0))) (fun _ hk => hk.1)⟩, ⟨ZR HQ58⟩, ⟨by refine ZS ?_; refine blk_far ?_ (by have h_ := Kd.R_ne HO_11.out BK117.out (by decide); intro e_; exact h_ (by rw [e_]; rfl)) _; refine ZS ?_; exact BK117.out⟩, ⟨by repeat (first | (with_reducible first | exact HB.out | apply below_alloc | apply pw_below_drewN | apply below_drew1 | refine below_set ?_ GB30.out | refine below_set ?_ GE117.out) | exact HB.out)⟩⟩
                    ·rw [if_neg c34] at H
                     exact absurd H (by simp)
                   ·rw [if_neg c33] at H
                    exact absurd H (by simp)
                  ·rw [if_neg c31] at H
                   have c31b0 : decide ((wrap64 (x12_3 + 1)) < a3) = false := decide_eq_false c31
                   clear c31
                   by_cases c59 : x12_3 > 0
                   ·rw [if_pos c59] at H
                    have c59b0 : decide (0 < x12_3) = true := decide_eq_true c59
                    clear c59
                    obtain ⟨ji60, hji60⟩ : ∃ j_ : Int, (wrap64 (x12_3 - 1)) = j_ := ⟨_, rfl⟩
                    replace H : (if 0 ≤ (ji60) then (if (ji60) < (x11_3.length : Int) then (if x12_3 < (l0_2.length : Int) then (spec_l09Sums.l1 k3 x1_2 a3 a0_0 x10_2 (y128.set ((ji60) : Int).toNat (Int.tmod (wrap64 ((rd y128 (ji60)) + (wrap64 ((rd x10_2 x12_3) * (rd l0_2 x12_3))))) a0_0)) (wrap64 (x12_3 + 1)) a0_0 l0_1 l0_2) else (none)) else (none)) else (none)) = some r := by first | (rw [hji60] at H; exact H) | (simp only [hji60] at H ⊢; exact H)
                    have hji60w : (IntKind.i64.wrap (x12_3 - 1)) = ji60 := (i64_w _).trans hji60
                    by_cases c61 : 0 ≤ (ji60)
                    ·rw [if_pos c61] at H
                     have c61b0 : decide (0 ≤ (ji60)) = true := decide_eq_true c61
                     clear c61
                     by_cases c62 : (ji60) < (x11_3.length : Int)
                     ·rw [if_pos c62] at H
                      have c62b0 : decide ((ji60) < (x11_3.length : Int)) = true := decide_eq_true c62
                      clear c62
                      by_cases c63 : x12_3 < (l0_2.length : Int)
                      ·rw [if_pos c63] at H
                       have c63b0 : decide (x12_3 < (l0_2.length : Int)) = true := decide_eq_true c63
                       clear c63
                       obtain ⟨y139, hy139⟩ : ∃ y_ : List Int, y_ = (y128.set ((ji60) : Int).toNat (Int.tmod (wrap64 ((rd y128 (ji60)) + (wrap64 ((rd x10_2 x12_3) * (rd l0_2 x12_3))))) a0_0)) := ⟨_, rfl⟩
                       replace H : (spec_l09Sums.l1 k3 x1_2 a3 a0_0 x10_2 y139 (wrap64 (x12_3 + 1)) a0_0 l0_1 l0_2) = some r := by first | (rw [hy139]; with_reducible exact H) | (have H2_ := (Option.bind_some _ _).symm.trans H; rw [hy139]; with_reducible exact H2_) | (have H2_ := (Option.bind_some _ _).symm.trans H; with_reducible exact H2_) | with_reducible exact H | (rw [hy139]; exact H) | exact H
                       have Ny139 := Aside0.mk hy139
                       clear hy139
                       have H' := Aside0.mk H
                       clear H
                       try go_wp2
                       have n0_ := Aside0.mk (Kd.R_drew HO_10.out)
                       have n1_ := Aside0.mk (Kd.R_drew HO_11.out)
                       have n2_ := Aside0.mk (blk_drew BK117.out)
                       have n3_ := Aside0.mk (below_drew1 HB.out)
                       clear HO_10
                       clear HO_11
                       clear BK117
                       clear HB
                       have HO_10 := n0_
                       have HO_11 := n1_
                       have BK117 := n2_
                       have HB := n3_
                       clear n0_ n1_ n2_ n3_
                       obtain ⟨Ao66, co66, eo66⟩ := Kd.R_slice HO_11.out
                       (first | subst eo66 | (injection eo66 with f1_ f2_ f3_; have f4_ := f1_.symm; have f5_ := f3_.symm; clear f1_ f2_ f3_; subst f4_; subst f5_))
                       have p125 : 0 ≤ (x12_3 : Int) := of_decide_eq_true (by first | (with_reducible assumption) | assumption)
                       have q125 : x12_3 < (x11_3.length : Int) := of_decide_eq_true (by first | (with_reducible assumption) | assumption)
                       obtain ⟨ad125, e125, hx125_0⟩ := Kd.at_int (Kd.R_reads' HO_11.out).2.2 x12_3 p125 q125
                       cases e125
                       replace p125 := eq_true p125
                       replace q125 := eq_true q125
                       obtain ⟨Ao67, co67, eo67⟩ := Kd.R_slice HO_10.out
                       (first | subst eo67 | (injection eo67 with f1_ f2_ f3_; have f4_ := f1_.symm; have f5_ := f3_.symm; clear f1_ f2_ f3_; subst f4_; subst f5_))
                       have p126 : 0 ≤ (x12_3 : Int) := of_decide_eq_true (by first | (with_reducible assumption) | assumption)
                       have q126 : x12_3 < (x10_2.length : Int) := of_decide_eq_true (by first | (with_reducible assumption) | assumption)
                       obtain ⟨ad126, e126, hx126_0⟩ := Kd.at_int (Kd.R_reads' HO_10.out).2.2 x12_3 p126 q126
                       cases e126
                       replace p126 := eq_true p126
                       replace q126 := eq_true q126
                       have p127 : 0 ≤ (x12_3 : Int) := of_decide_eq_true (by first | (with_reducible assumption) | assumption)
                       have q127 : x12_3 < (l0_1.length : Int) := of_decide_eq_true (by first | (with_reducible assumption) | assumption)
                       obtain ⟨ad127, e127, hx127_0⟩ := Kd.at_int HR0_1.out x12_3 p127 q127
                       have hw127_0 := hx127_0
                       cases e127
                       replace hx127_0 := (HB.out.cell (World.block_lt_of_cell? w _ hx127_0)).trans hx127_0
                       replace p127 := eq_true p127
                       replace q127 := eq_true q127
                       have p30 : 0 ≤ (x12_3 : Int) := of_decide_eq_true (by first | (with_reducible assumption) | assumption)
                       have q30 : (x12_3 : Int) < ((x11_3.length : Int) : Int) := of_decide_eq_true (by first | (with_reducible assumption) | assumption)
                       obtain ⟨go30, co30, eo30, gb30, gl30, cl30, HG30⟩ := Kd.R_form HO_11.out (by omega)
                       (first | cases eo30 | (injection eo30 with ea_ en_ ec_; (first | subst ea_ | (injection ea_ with ea_; subst ea_)); subst ec_; clear en_))
                       have GB30 := Aside0.mk gb30
                       have GG30 := Aside0.mk HG30
                       clear gb30 gl30 HG30
                       (first | simp only [add_plain] at hx125_0 | skip)
                       obtain ⟨hx30_0, hf30_0⟩ := Kd.R_celln 0 HO_11.out (x12_3 : Int) p30 q30
                       replace p30 := eq_true p30
                       replace q30 := eq_true q30
                       have HP68 := Kd.R_putn HO_11.out (x12_3 : Int) (Int.tmod (wrap64 ((rd x11_3 x12_3) + (wrap64 ((rd x10_2 x12_3) * (rd l0_1 x12_3))))) a0_0)
                       rw [← Ny128.out] at HP68
                       have HQ68 := Aside0.mk HP68
                       clear HP68
                       refine start_ (n := 21) (S := fun w' => w'.cell? ⟨gb117, 0, none⟩ = some (.int .i64 a0_0) ∧ w'.cell? ⟨gb117, 1, none⟩ = some (.slice (some ad127) l0_1.length c0_1) ∧ w'.cell? ⟨gb117, 2, none⟩ = some (.slice A0_2 l0_2.length c0_2) ∧ w'.cell? ⟨go30, (x12_3).toNat, none⟩ = some (.int .i64 (rd x11_3 x12_3)) ∧ w'.cell? (ad126.add (x12_3).toNat) = some (.int .i64 (rd x10_2 x12_3)) ∧ w'.cell? (ad127.add (x12_3).toNat) = some (.int .i64 (rd l0_1 x12_3))) (ds := [20]) #[false, false, false, false, false, false, false, false, false, false, false, false, false, false, false, false, false, false, false, false, false] (by kernel_rfl) rfl rfl ⟨(blk_cell BK117.out 0).trans rfl, (blk_cell BK117.out 1).trans rfl, (blk_cell BK117.out 2).trans rfl, hx125_0, hx126_0, ((HB.out.cell (World.block_lt_of_cell? w _ hw127_0)).trans hw127_0)⟩ (fun hHeld => ?_); refine with_tabW spec_l09Sums.tab11 spec_l09Sums.bits11 (fun HT_ HW_ => ?_)
                       generalize wr.drew = w65 at HO_10 HO_11 BK117 HB GG30 HQ68 hf30_0 hx125_0 hx126_0 hx127_0 hx30_0 hHeld ⊢
                       refine Zpt 0 (some 36) (h := ?_)
                       refine Zpt 1 (some 37) (h := ?_)
                       refine Zpt 2 (some 38) (h := ?_)
                       refine Zpt 3 (some 39) (h := ?_)
                       refine Zpt 4 (some 40) (h := ?_)
                       refine Zpt 6 (some 42) (h := ?_)
                       refine Zpt 7 (some 43) (h := ?_)
                       refine Zpt 8 (some 44) (h := ?_)
                       refine Zpt 10 (some 46) (h := ?_)
                       refine Zpt 12 (some 48) (h := ?_)
                       refine Zpt 17 (some 53) (h := ?_)
                       refine ZtW6 5 (some 41) hHeld (h := ?_)
                       refine ZtW6 9 (some 45) hHeld (h := ?_)
                       refine ZtW6 11 (some 47) hHeld (h := ?_)
                       refine Zpt 13 (some 49) (h := ?_)
                       refine ZtW6 14 (some 50) hHeld (h := ?_)
                       refine Zpt 15 (some 51) (h := ?_)
                       refine Zpt 16 (some 52) (h := ?_)
                       refine Zpt 18 (some 54) (h := ?_)
                       refine Zpt 19 (some 55) (h := ?_)
                       refine last_ (i := 20) (N := none) #[true, true, true, true, true, true, true, true, true, true, true, true, true, true, true, true, true, true, true, true, true] rfl rfl (one_of HT_.out (by kernel_rfl)) (by decide) (fun K hK => ?_)
                       refine skip_ (w1 := ?_) (by rfl) rfl ?_ ?_
                       rotate_left
                       ·go_simp
                        rfl
                       refine hK.out _ _ ?_
                       clear hK K
                       refine done_ (done_of HT_.out (by kernel_rfl)) ?_
                       try go_wp2
                       have n0_ : Aside0 (Kd.R (Kd.int .i64) 2 (w65.setCell ⟨go30, (x12_3 : Int).toNat, none⟩ (.int .i64 (Int.tmod (wrap64 ((rd x11_3 x12_3) + (wrap64 ((rd x10_2 x12_3) * (rd l0_1 x12_3))))) a0_0))) w.heap.size (fun k_ => some k_ ≠ (.slice (some ⟨go30, 0, none⟩) x11_3.length co66 : Value).ownBlock) (.slice (some ad126) x10_2.length co67) x10_2) := ⟨by refine ZQ ?_; exact Kd.R_mono (Kd.R_far (p := ⟨go30, (x12_3 : Int).toNat, none⟩) (Kd.R_mono HO_10.out (fun k_ hk => (⟨hk, fun e_ => hk (by rw [e_]; rfl)⟩ : _ ∧ k_ ≠ go30))) (fun _ hk => hk.2) (.int .i64 (Int.tmod (wrap64 ((rd x11_3 x12_3) + (wrap64 ((rd x10_2 x12_3) * (rd l0_1 x12_3))))) a0_0))) (fun _ hk => hk.1)⟩
                       have n1_ : Aside0 (Kd.R (Kd.int .i64) 2 (w65.setCell ⟨go30, (x12_3 : Int).toNat, none⟩ (.int .i64 (Int.tmod (wrap64 ((rd x11_3 x12_3) + (wrap64 ((rd x10_2 x12_3) * (rd l0_1 x12_3))))) a0_0))) w.heap.size (fun k_ => some k_ ≠ (.slice (some ad126) x10_2.length co67 : Value).ownBlock) (.slice (some ⟨go30, 0, none⟩) x11_3.length co66) y128) := ⟨ZR HQ68⟩
                       have n2_ : Aside0 ((w65.setCell ⟨go30, (x12_3 : Int).toNat, none⟩ (.int .i64 (Int.tmod (wrap64 ((rd x11_3 x12_3) + (wrap64 ((rd x10_2 x12_3) * (rd l0_1 x12_3))))) a0_0))).heap[gb117]? = some (.cells #[.int .i64 a0_0, .slice (some ad127) l0_1.length c0_1, .slice A0_2 l0_2.length c0_2] 29 (0, 0))) := ⟨by refine ZS ?_; refine blk_far ?_ (by have h_ := Kd.R_ne HO_11.out BK117.out (by decide); intro e_; exact h_ (by rw [e_]; rfl)) _; refine ZS ?_; exact BK117.out⟩
                       have n3_ : Aside0 (Below w.heap.size w (w65.setCell ⟨go30, (x12_3 : Int).toNat, none⟩ (.int .i64 (Int.tmod (wrap64 ((rd x11_3 x12_3) + (wrap64 ((rd x10_2 x12_3) * (rd l0_1 x12_3))))) a0_0)))) := ⟨by repeat (first | (with_reducible first | exact HB.out | apply below_alloc | apply pw_below_drewN | apply below_drew1 | refine below_set ?_ GB30.out | refine below_set ?_ GE117.out) | exact HB.out)⟩
                       (try clear HO_10)
                       (try clear HO_11)
                       (try clear BK117)
                       (try clear HB)
                       generalize (w65.setCell ⟨go30, (x12_3 : Int).toNat, none⟩ (.int .i64 (Int.tmod (wrap64 ((rd x11_3 x12_3) + (wrap64 ((rd x10_2 x12_3) * (rd l0_1 x12_3))))) a0_0))) = w69 at n0_ n1_ n2_ n3_ ⊢
                       have HO_10 := n0_
                       have HO_11 := n1_
                       have BK117 := n2_
                       have HB := n3_
                       clear n0_ n1_ n2_ n3_
                       have n0_ := Aside0.mk (Kd.R_drew HO_10.out)
                       have n1_ := Aside0.mk (Kd.R_drew HO_11.out)
                       have n2_ := Aside0.mk (blk_drew BK117.out)
                       have n3_ := Aside0.mk (below_drew1 HB.out)
                       clear HO_10
                       clear HO_11
                       clear BK117
                       clear HB
                       have HO_10 := n0_
                       have HO_11 := n1_
                       have BK117 := n2_
                       have HB := n3_
                       clear n0_ n1_ n2_ n3_
                       have p136 : 0 ≤ ((ji60) : Int) := of_decide_eq_true (by first | (with_reducible assumption) | assumption)
                       have q136 : (ji60) < (y128.length : Int) := (by have h_ : ((ji60) : Int) < ((x11_3.length : Int) : Int) := of_decide_eq_true (by first | (with_reducible assumption) | assumption); first | (have e_ := (Kd.R_reads' HO_11.out).1; omega) | simpa only [Ny128.out, List.length_set] using h_)
                       have ql136 : (((ji60) : Int) < ((x11_3.length : Int) : Int)) = True := eq_true (of_decide_eq_true (by first | (with_reducible assumption) | assumption))
                       obtain ⟨ad136, e136, hx136_0⟩ := Kd.at_int (Kd.R_reads' HO_11.out).2.2 (ji60) p136 q136
                       obtain rfl : (⟨go30, 0, none⟩ : Addr) = ad136 := (by injection e136)
                       (first | simp only [add_plain] at hx136_0 | simp only [add_at] at hx136_0 | simp only [Addr.add, Nat.zero_add] at hx136_0 | skip)
                       replace p136 := eq_true p136
                       replace q136 := eq_true q136
                       have p137 : 0 ≤ (x12_3 : Int) := of_decide_eq_true (by first | (with_reducible assumption) | assumption)
                       have q137 : x12_3 < (x10_2.length : Int) := of_decide_eq_true (by first | (with_reducible assumption) | assumption)
                       obtain ⟨ad137, e137, hx137_0⟩ := Kd.at_int (Kd.R_reads' HO_10.out).2.2 x12_3 p137 q137
                       obtain rfl : ad126 = ad137 := (by injection e137)
                       replace p137 := eq_true p137
                       replace q137 := eq_true q137
                       have p138 : 0 ≤ (x12_3 : Int) := of_decide_eq_true (by first | (with_reducible assumption) | assumption)
                       have q138 : x12_3 < (l0_2.length : Int) := of_decide_eq_true (by first | (with_reducible assumption) | assumption)
                       obtain ⟨ad138, e138, hx138_0⟩ := Kd.at_int HR0_2.out x12_3 p138 q138
                       have hw138_0 := hx138_0
                       cases e138
                       replace hx138_0 := (HB.out.cell (World.block_lt_of_cell? w _ hx138_0)).trans hx138_0
                       replace p138 := eq_true p138
                       replace q138 := eq_true q138
                       have p64 : 0 ≤ ((ji60) : Int) := of_decide_eq_true (by first | (with_reducible assumption) | assumption)
                       have q64 : ((ji60) : Int) < ((x11_3.length : Int) : Int) := of_decide_eq_true (by first | (with_reducible assumption) | assumption)
                       obtain ⟨hx64_0, hf64_0⟩ := Kd.R_celln 0 HO_11.out ((ji60) : Int) p64 q64
                       replace p64 := eq_true p64
                       replace q64 := eq_true q64
                       have HP71 := Kd.R_putn HO_11.out ((ji60) : Int) (Int.tmod (wrap64 ((rd y128 (ji60)) + (wrap64 ((rd x10_2 x12_3) * (rd l0_2 x12_3))))) a0_0)
                       rw [← Ny139.out] at HP71
                       have HQ71 := Aside0.mk HP71
                       clear HP71
                       refine start_ (n := 23) (S := fun w' => w'.cell? ⟨gb117, 0, none⟩ = some (.int .i64 a0_0) ∧ w'.cell? ⟨gb117, 1, none⟩ = some (.slice (some ad127) l0_1.length c0_1) ∧ w'.cell? ⟨gb117, 2, none⟩ = some (.slice (some ad138) l0_2.length c0_2) ∧ w'.cell? ⟨go30, ((ji60)).toNat, none⟩ = some (.int .i64 (rd y128 (ji60))) ∧ w'.cell? (ad126.add (x12_3).toNat) = some (.int .i64 (rd x10_2 x12_3)) ∧ w'.cell? (ad138.add (x12_3).toNat) = some (.int .i64 (rd l0_2 x12_3))) (ds := [22]) #[false, false, false, false, false, false, false, false, false, false, false, false, false, false, false, false, false, false, false, false, false, false, false] (by kernel_rfl) rfl rfl ⟨(blk_cell BK117.out 0).trans rfl, (blk_cell BK117.out 1).trans rfl, (blk_cell BK117.out 2).trans rfl, hx136_0, hx137_0, ((HB.out.cell (World.block_lt_of_cell? w _ hw138_0)).trans hw138_0)⟩ (fun hHeld => ?_); refine with_tabW spec_l09Sums.tab15 spec_l09Sums.bits15 (fun HT_ HW_ => ?_)
                       generalize w69.drew = w70 at HO_10 HO_11 BK117 HB HQ68 HQ71 hf64_0 hx136_0 hx137_0 hx138_0 hx64_0 hHeld ⊢
                       refine Zpt 0 (some 78) (h := ?_)
                       refine Zpt 1 (some 79) (h := ?_)
                       refine Zpt 2 (some 80) (h := ?_)
                       refine Zpt 3 (some 81) (h := ?_)
                       refine Zpt 4 (some 82) (h := ?_)
                       refine Zpt 5 (some 83) (h := ?_)
                       refine Zpt 6 (some 84) (h := ?_)
                       refine Zpt 8 (some 86) (h := ?_)
                       refine Zpt 9 (some 87) (h := ?_)
                       refine Zpt 10 (some 88) (h := ?_)
                       refine Zpt 12 (some 90) (h := ?_)
                       refine Zpt 14 (some 92) (h := ?_)
                       refine Zpt 19 (some 97) (h := ?_)
                       refine ZtW6 7 (some 85) hHeld (h := ?_)
                       refine ZtW6 11 (some 89) hHeld (h := ?_)
                       refine ZtW6 13 (some 91) hHeld (h := ?_)
                       refine Zpt 15 (some 93) (h := ?_)
                       refine ZtW6 16 (some 94) hHeld (h := ?_)
                       refine Zpt 17 (some 95) (h := ?_)
                       refine Zpt 18 (some 96) (h := ?_)
                       refine Zpt 20 (some 98) (h := ?_)
                       refine Zpt 21 (some 99) (h := ?_)
                       refine last_ (i := 22) (N := none) #[true, true, true, true, true, true, true, true, true, true, true, true, true, true, true, true, true, true, true, true, true, true, true] rfl rfl (one_of HT_.out (by kernel_rfl)) (by decide) (fun K hK => ?_)
                       refine skip_ (w1 := ?_) (by rfl) rfl ?_ ?_
                       rotate_left
                       ·go_simp
                        rfl
                       refine hK.out _ _ ?_
                       clear hK K
                       refine done_ (done_of HT_.out (by kernel_rfl)) ?_
                       try go_wp2
                       go_roundg k3
                       case measure => have := HJ6.out; have := HK2.out; have := HK3.out; omega
                       case rel => exact ⟨(y139), (wrap64 (x12_3 + 1)), (by first | rfl | (simp; done) | (simp [*]; done)), H', ⟨by have := HJ6.out; have := HK2.out; have := HK3.out; omega⟩, ⟨by refine ZQ ?_; exact Kd.R_mono (Kd.R_far (p := ⟨go30, ((ji60) : Int).toNat, none⟩) (Kd.R_mono HO_10.out (fun k_ hk => (⟨hk, fun e_ => hk (by rw [e_]; rfl)⟩ : _ ∧ k_ ≠ go30))) (fun _ hk => hk.2) (.int .i64 (Int.tmod (wrap64 ((rd y128 (ji60)) + (wrap64 ((rd x10_2 x12_3) * (rd l0_2 x12_3))))) a0_0))) (fun _ hk => hk.1)⟩, ⟨ZR HQ71⟩, ⟨by refine ZS ?_; refine blk_far ?_ (by have h_ := Kd.R_ne HO_11.out BK117.out (by decide); intro e_; exact h_ (by rw [e_]; rfl)) _; refine ZS ?_; exact BK117.out⟩, ⟨by repeat (first | (with_reducible first | exact HB.out | apply below_alloc | apply pw_below_drewN | apply below_drew1 | refine below_set ?_ GB30.out | refine below_set ?_ GE117.out) | exact HB.out)⟩⟩
                      ·rw [if_neg c63] at H
                       exact absurd H (by simp)
                     ·rw [if_neg c62] at H
                      exact absurd H (by simp)
                    ·rw [if_neg c61] at H
                     exact absurd H (by simp)
                   ·rw [if_neg c59] at H
                    have c59b0 : decide (0 < x12_3) = false := decide_eq_false c59
                    clear c59
                    have H' := Aside0.mk H
                    clear H
                    try go_wp2
                    have n0_ := Aside0.mk (Kd.R_drew HO_10.out)
                    have n1_ := Aside0.mk (Kd.R_drew HO_11.out)
                    have n2_ := Aside0.mk (blk_drew BK117.out)
                    have n3_ := Aside0.mk (below_drew1 HB.out)
                    clear HO_10
                    clear HO_11
                    clear BK117
                    clear HB
                    have HO_10 := n0_
                    have HO_11 := n1_
                    have BK117 := n2_
                    have HB := n3_
                    clear n0_ n1_ n2_ n3_
                    obtain ⟨Ao73, co73, eo73⟩ := Kd.R_slice HO_11.out
                    (first | subst eo73 | (injection eo73 with f1_ f2_ f3_; have f4_ := f1_.symm; have f5_ := f3_.symm; clear f1_ f2_ f3_; subst f4_; subst f5_))
                    have p125 : 0 ≤ (x12_3 : Int) := of_decide_eq_true (by first | (with_reducible assumption) | assumption)
                    have q125 : x12_3 < (x11_3.length : Int) := of_decide_eq_true (by first | (with_reducible assumption) | assumption)
                    obtain ⟨ad125, e125, hx125_0⟩ := Kd.at_int (Kd.R_reads' HO_11.out).2.2 x12_3 p125 q125
                    cases e125
                    replace p125 := eq_true p125
                    replace q125 := eq_true q125
                    obtain ⟨Ao74, co74, eo74⟩ := Kd.R_slice HO_10.out
                    (first | subst eo74 | (injection eo74 with f1_ f2_ f3_; have f4_ := f1_.symm; have f5_ := f3_.symm; clear f1_ f2_ f3_; subst f4_; subst f5_))
                    have p126 : 0 ≤ (x12_3 : Int) := of_decide_eq_true (by first | (with_reducible assumption) | assumption)
                    have q126 : x12_3 < (x10_2.length : Int) := of_decide_eq_true (by first | (with_reducible assumption) | assumption)
                    obtain ⟨ad126, e126, hx126_0⟩ := Kd.at_int (Kd.R_reads' HO_10.out).2.2 x12_3 p126 q126
                    cases e126
                    replace p126 := eq_true p126
                    replace q126 := eq_true q126
                    have p127 : 0 ≤ (x12_3 : Int) := of_decide_eq_true (by first | (with_reducible assumption) | assumption)
                    have q127 : x12_3 < (l0_1.length : Int) := of_decide_eq_true (by first | (with_reducible assumption) | assumption)
                    obtain ⟨ad127, e127, hx127_0⟩ := Kd.at_int HR0_1.out x12_3 p127 q127
                    have hw127_0 := hx127_0
                    cases e127
                    replace hx127_0 := (HB.out.cell (World.block_lt_of_cell? w _ hx127_0)).trans hx127_0
                    replace p127 := eq_true p127
                    replace q127 := eq_true q127
                    have p30 : 0 ≤ (x12_3 : Int) := of_decide_eq_true (by first | (with_reducible assumption) | assumption)
                    have q30 : (x12_3 : Int) < ((x11_3.length : Int) : Int) := of_decide_eq_true (by first | (with_reducible assumption) | assumption)
                    obtain ⟨go30, co30, eo30, gb30, gl30, cl30, HG30⟩ := Kd.R_form HO_11.out (by omega)
                    (first | cases eo30 | (injection eo30 with ea_ en_ ec_; (first | subst ea_ | (injection ea_ with ea_; subst ea_)); subst ec_; clear en_))
                    have GB30 := Aside0.mk gb30
                    have GG30 := Aside0.mk HG30
                    clear gb30 gl30 HG30
                    (first | simp only [add_plain] at hx125_0 | skip)
                    obtain ⟨hx30_0, hf30_0⟩ := Kd.R_celln 0 HO_11.out (x12_3 : Int) p30 q30
                    replace p30 := eq_true p30
                    replace q30 := eq_true q30
                    have HP75 := Kd.R_putn HO_11.out (x12_3 : Int) (Int.tmod (wrap64 ((rd x11_3 x12_3) + (wrap64 ((rd x10_2 x12_3) * (rd l0_1 x12_3))))) a0_0)
                    rw [← Ny128.out] at HP75
                    have HQ75 := Aside0.mk HP75
                    clear HP75
                    refine start_ (n := 21) (S := fun w' => w'.cell? ⟨gb117, 0, none⟩ = some (.int .i64 a0_0) ∧ w'.cell? ⟨gb117, 1, none⟩ = some (.slice (some ad127) l0_1.length c0_1) ∧ w'.cell? ⟨gb117, 2, none⟩ = some (.slice A0_2 l0_2.length c0_2) ∧ w'.cell? ⟨go30, (x12_3).toNat, none⟩ = some (.int .i64 (rd x11_3 x12_3)) ∧ w'.cell? (ad126.add (x12_3).toNat) = some (.int .i64 (rd x10_2 x12_3)) ∧ w'.cell? (ad127.add (x12_3).toNat) = some (.int .i64 (rd l0_1 x12_3))) (ds := [20]) #[false, false, false, false, false, false, false, false, false, false, false, false, false, false, false, false, false, false, false, false, false] (by kernel_rfl) rfl rfl ⟨(blk_cell BK117.out 0).trans rfl, (blk_cell BK117.out 1).trans rfl, (blk_cell BK117.out 2).trans rfl, hx125_0, hx126_0, ((HB.out.cell (World.block_lt_of_cell? w _ hw127_0)).trans hw127_0)⟩ (fun hHeld => ?_); refine with_tabW spec_l09Sums.tab11 spec_l09Sums.bits11 (fun HT_ HW_ => ?_)
                    generalize wr.drew = w72 at HO_10 HO_11 BK117 HB GG30 HQ75 hf30_0 hx125_0 hx126_0 hx127_0 hx30_0 hHeld ⊢
                    refine Zpt 0 (some 36) (h := ?_)
                    refine Zpt 1 (some 37) (h := ?_)
                    refine Zpt 2 (some 38) (h := ?_)
                    refine Zpt 3 (some 39) (h := ?_)
                    refine Zpt 4 (some 40) (h := ?_)
                    refine Zpt 6 (some 42) (h := ?_)
                    refine Zpt 7 (some 43) (h := ?_)
                    refine Zpt 8 (some 44) (h := ?_)
                    refine Zpt 10 (some 46) (h := ?_)
                    refine Zpt 12 (some 48) (h := ?_)
                    refine Zpt 17 (some 53) (h := ?_)
                    refine ZtW6 5 (some 41) hHeld (h := ?_)
                    refine ZtW6 9 (some 45) hHeld (h := ?_)
                    refine ZtW6 11 (some 47) hHeld (h := ?_)
                    refine Zpt 13 (some 49) (h := ?_)
                    refine ZtW6 14 (some 50) hHeld (h := ?_)
                    refine Zpt 15 (some 51) (h := ?_)
                    refine Zpt 16 (some 52) (h := ?_)
                    refine Zpt 18 (some 54) (h := ?_)
                    refine Zpt 19 (some 55) (h := ?_)
                    refine last_ (i := 20) (N := none) #[true, true, true, true, true, true, true, true, true, true, true, true, true, true, true, true, true, true, true, true, true] rfl rfl (one_of HT_.out (by kernel_rfl)) (by decide) (fun K hK => ?_)
                    refine skip_ (w1 := ?_) (by rfl) rfl ?_ ?_
                    rotate_left
                    ·go_simp
                     rfl
                    refine hK.out _ _ ?_
                    clear hK K
                    refine done_ (done_of HT_.out (by kernel_rfl)) ?_
                    try go_wp2
                    go_roundg k3
                    case measure => have := HJ6.out; have := HK2.out; have := HK3.out; omega
                    case rel => exact ⟨(y128), (wrap64 (x12_3 + 1)), (by first | rfl | (simp; done) | (simp [*]; done)), H', ⟨by have := HJ6.out; have := HK2.out; have := HK3.out; omega⟩, ⟨by refine ZQ ?_; exact Kd.R_mono (Kd.R_far (p := ⟨go30, (x12_3 : Int).toNat, none⟩) (Kd.R_mono HO_10.out (fun k_ hk => (⟨hk, fun e_ => hk (by rw [e_]; rfl)⟩ : _ ∧ k_ ≠ go30))) (fun _ hk => hk.2) (.int .i64 (Int.tmod (wrap64 ((rd x11_3 x12_3) + (wrap64 ((rd x10_2 x12_3) * (rd l0_1 x12_3))))) a0_0))) (fun _ hk => hk.1)⟩, ⟨ZR HQ75⟩, ⟨by refine ZS ?_; refine blk_far ?_ (by have h_ := Kd.R_ne HO_11.out BK117.out (by decide); intro e_; exact h_ (by rw [e_]; rfl)) _; refine ZS ?_; exact BK117.out⟩, ⟨by repeat (first | (with_reducible first | exact HB.out | apply below_alloc | apply pw_below_drewN | apply below_drew1 | refine below_set ?_ GB30.out | refine below_set ?_ GE117.out) | exact HB.out)⟩⟩
                ·rw [if_neg c28] at H
                 exact absurd H (by simp)
               ·rw [if_neg c27] at H
                exact absurd H (by simp)
              ·rw [if_neg c26] at H
               exact absurd H (by simp)
             ·rw [if_neg c25] at H
              exact absurd H (by simp)
            ·rw [if_neg c24] at H
             have c24b0 : decide (x12_3 < a3) = false := decide_eq_false c24
             clear c24
             have H' := Aside0.mk H
             clear H
             go_wp2
             go_roundg k3
             case measure => have := HJ6.out; have := HK2.out; have := HK3.out; omega
             case rel => exact ⟨(wrap64 (x1_2 - 1)), (x11_3), (by first | rfl | (simp; done) | (simp [*]; done)), H', ⟨by have := HJ6.out; have := HK2.out; have := HK3.out; omega⟩, ⟨by refine ZQ ?_; exact Kd.R_mono HO_11.out (fun _ hk => trivial)⟩, ⟨ZK BK117⟩, ⟨ZB⟩⟩
         ·rw [if_neg c21] at H
          exact absurd H (by simp)
        ·rw [if_neg c20] at H
         exact absurd H (by simp)
       ·rw [if_neg c19] at H
        have c19b0 : decide (0 < x1_2) = false := decide_eq_false c19
        clear c19
        obtain rfl := Option.some.inj H
        go_wp2
        go_ret
        exact ⟨_, by first | rfl | (simp [errW_none, errW_some] <;> rfl) | (simp [*, errW_none, errW_some] <;> rfl), by refine ZQ ?_; exact HO_10.out, ZB⟩
  ·rw [if_neg c6] at H
   exact absurd H (by simp)
 ·rw [if_neg c5] at H
  exact absurd H (by simp)

end Go.Proofs.Ytaclapojgdekpaa.X
