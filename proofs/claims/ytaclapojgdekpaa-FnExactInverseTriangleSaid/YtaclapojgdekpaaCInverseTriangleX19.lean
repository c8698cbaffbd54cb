/- Contracts of functions that the law reaches, printed by a program of this session; Lean checks them. -/
import Derived.Test.YtaclapojgdekpaaCInverseTriangleX0
import Derived.Test.YtaclapojgdekpaaCInverseTriangleX10
import Derived.Test.YtaclapojgdekpaaCInverseTriangleX17
import Derived.Test.YtaclapojgdekpaaCInverseTriangleX18
import Derived.Test.YtaclapojgdekpaaCInverseTriangleXZ
namespace Go.Proofs.Ytaclapojgdekpaa.X
open Go.RowKit Go.Proofs.YtaclapojgdekpaaW.PrintWords Go.Proofs.YtaclapojgdekpaaW.PrintLast Go.Proofs.YtaclapojgdekpaaW.PrintMore
attribute [local go_sem] max2_int min2_int max_two min_two max_three min_three max_four min_four   -- for this text's walks alone
set_option linter.unusedVariables false
set_option linter.unusedSimpArgs false

/-! ### spec_l01Add: function 103 -/
mutual
def spec_l01Add.l0 : Nat → Int → List Int → List Int → Int → List Int → Int → Option (List Int)
 | 0, _, _, _, _, _, _ => none
 | k + 1, x0, x1, x2, x3, x9, x10 => if x10 < (x1.length : Int) then (if 0 ≤ x10 then (if x10 < (x9.length : Int) then (spec_l01Add.l0 k x0 x1 x2 x3 (x9.set (x10 : Int).toNat (rd x1 x10)) (wrap64 (x10 + 1))) else (none)) else (none)) else (spec_l01Add.l1 k x0 x2 x3 x9 0)
def spec_l01Add.l1 : Nat → Int → List Int → Int → List Int → Int → Option (List Int)
 | 0, _, _, _, _, _ => none
 | k + 1, x0, x2, x3, x9, x11 => if x11 < (x2.length : Int) then (if 0 ≤ x11 then (if x11 < (x9.length : Int) then ((spec_l01Mod.f x0 (wrap64 ((rd x9 x11) + (wrap64 (x3 * (rd x2 x11)))))).bind fun t523 => (spec_l01Add.l1 k x0 x2 x3 (x9.set (x11 : Int).toNat t523) (wrap64 (x11 + 1)))) else (none)) else (none)) else ((spec_l01Trim.f k x9).bind fun t525 => (some t525))
end
def spec_l01Add.f (k : Nat) (a0 : Int) (l1 : List Int) (l2 : List Int) (a3 : Int) : Option (List Int) := if 0 ≤ (mx (l1.length : Int) (l2.length : Int)) then (if (mx (l1.length : Int) (l2.length : Int) : Int).toNat ≤ 35184372088832 then (spec_l01Add.l0 k a0 l1 l2 a3 (List.replicate (mx (l1.length : Int) (l2.length : Int) : Int).toNat 0) 0) else (none)) else (none)
theorem spec_l01Add.mono_l : ∀ k, (∀ y0 y1 y2 y3 y4 y5, LeO (spec_l01Add.l0 k y0 y1 y2 y3 y4 y5) (spec_l01Add.l0 (k + 1) y0 y1 y2 y3 y4 y5)) ∧ (∀ y0 y1 y2 y3 y4, LeO (spec_l01Add.l1 k y0 y1 y2 y3 y4) (spec_l01Add.l1 (k + 1) y0 y1 y2 y3 y4))
 | 0 => ⟨fun _ _ _ _ _ _ r h => by simp [spec_l01Add.l0] at h, fun _ _ _ _ _ r h => by simp [spec_l01Add.l1] at h⟩
 | k + 1 => by
  obtain ⟨ih0, ih1⟩ := spec_l01Add.mono_l k
  refine ⟨?_, ?_⟩
  ·intro y0 y1 y2 y3 y4 y5
   unfold spec_l01Add.l0
   repeat' first
   | (with_reducible exact ih0 _ _ _ _ _ _)
   | (with_reducible exact ih1 _ _ _ _ _)
   | (with_reducible exact spec_l01Trim.mono _ _)
   | (with_reducible exact LeO.refl _)
   | (with_reducible exact LeO.none _)
   | (with_reducible refine LeO.ite ?_ ?_)
   | (with_reducible refine LeO.bind ?_ (fun _ => ?_))
   | exact ih0 _ _ _ _ _ _
   | exact ih1 _ _ _ _ _
   | exact spec_l01Trim.mono _ _
   | exact LeO.none _
   | refine LeO.ite ?_ ?_
   | refine LeO.bind ?_ (fun _ => ?_)
  ·intro y0 y1 y2 y3 y4
   unfold spec_l01Add.l1
   repeat' first
   | (with_reducible exact ih0 _ _ _ _ _ _)
   | (with_reducible exact ih1 _ _ _ _ _)
   | (with_reducible exact spec_l01Trim.mono _ _)
   | (with_reducible exact LeO.refl _)
   | (with_reducible exact LeO.none _)
   | (with_reducible refine LeO.ite ?_ ?_)
   | (with_reducible refine LeO.bind ?_ (fun _ => ?_))
   | exact ih0 _ _ _ _ _ _
   | exact ih1 _ _ _ _ _
   | exact spec_l01Trim.mono _ _
   | exact LeO.none _
   | refine LeO.ite ?_ ?_
   | refine LeO.bind ?_ (fun _ => ?_)
theorem spec_l01Add.mono : ∀ a0 a1 a2 a3 k, LeO (spec_l01Add.f k a0 a1 a2 a3) (spec_l01Add.f (k + 1) a0 a1 a2 a3) := by
 intro a0 a1 a2 a3 k
 obtain ⟨ih0, ih1⟩ := spec_l01Add.mono_l k
 unfold spec_l01Add.f
 repeat' first
   | (with_reducible exact ih0 _ _ _ _ _ _)
   | (with_reducible exact ih1 _ _ _ _ _)
   | (with_reducible exact spec_l01Trim.mono _ _)
   | (with_reducible exact LeO.refl _)
   | (with_reducible exact LeO.none _)
   | (with_reducible refine LeO.ite ?_ ?_)
   | (with_reducible refine LeO.bind ?_ (fun _ => ?_))
   | exact ih0 _ _ _ _ _ _
   | exact ih1 _ _ _ _ _
   | exact spec_l01Trim.mono _ _
   | exact LeO.none _
   | refine LeO.ite ?_ ?_
   | refine LeO.bind ?_ (fun _ => ?_)
def spec_l01Add.T9 : Bool × List (List Nat × List Nat) := (true, [([], []), ([], []), ([], []), ([], []), ([], []), ([3, 4], [3, 4]), ([5], [5]), ([], []), ([], []), ([], []), ([8, 9], [8, 9]), ([10], [10]), ([7, 11], [7, 11]), ([6, 12], [6, 12]), ([2, 13], [2, 13]), ([0, 1, 0, 1, 2, 3, 4, 5, 6, 7, 8, 9, 10, 11, 12, 13, 14], [0, 1]), ([15, 14, 14, 0, 1, 2, 3, 4, 5, 6, 7, 8, 9, 10, 11, 12, 13, 14], [14, 15])])
def spec_l01Add.B9 : List Nat := [0, 0, 0, 0, 0, 24, 56, 0, 0, 0, 768, 1792, 3968, 8184, 16380, 32767, 65535]
theorem spec_l01Add.tab9 : rtab .any (opsOf Try.f103 9) = spec_l01Add.T9 := by kernel_rfl
theorem spec_l01Add.bits9 : waitsOk spec_l01Add.T9.2 spec_l01Add.B9 = true := by kernel_rfl
set_option maxHeartbeats 8000000 in
set_option maxRecDepth 100000 in
theorem spec_l01Add.calls (k : Nat) (a0 : Int) (A1 : Option Addr) (c1 : Nat) (l1 : List Int) (A2 : Option Addr) (c2 : Nat) (l2 : List Int) (a3 : Int) (r : List Int) (w : World) (hr1 : Kd.C (Kd.int .i64) w A1 l1.length l1) (hc1 : l1.length ≤ c1) (hr2 : Kd.C (Kd.int .i64) w A2 l2.length l2) (hc2 : l2.length ≤ c2) (h : spec_l01Add.f k a0 l1 l2 a3 = some r) :
  Calls Try.prog 103 #[.int .i64 a0, .slice A1 l1.length c1, .slice A2 l2.length c2, .int .i64 a3] w fun e w' => ∃ v0_ : Value, e = .returned (v0_) ∧ Kd.R (Kd.int .i64) 2 w' w.heap.size (fun _ => True) v0_ r ∧ Below w.heap.size w w' := by
 have HR1 := Aside0.mk hr1
 have HC1 := Aside0.mk hc1
 clear hr1 hc1
 have HR2 := Aside0.mk hr2
 have HC2 := Aside0.mk hc2
 clear hr2 hc2
 have HB := Aside0.mk (Below.refl w.heap.size w)
 have H : (if 0 ≤ (mx (l1.length : Int) (l2.length : Int)) then (if (mx (l1.length : Int) (l2.length : Int) : Int).toNat ≤ 35184372088832 then (spec_l01Add.l0 k a0 l1 l2 a3 (List.replicate (mx (l1.length : Int) (l2.length : Int) : Int).toNat 0) 0) else (none)) else (none)) = some r := h
 clear h
 obtain ⟨ji5, hji5⟩ : ∃ j_ : Int, (mx (l1.length : Int) (l2.length : Int)) = j_ := ⟨_, rfl⟩
 replace H : (if 0 ≤ (ji5) then (if (ji5 : Int).toNat ≤ 35184372088832 then (spec_l01Add.l0 k a0 l1 l2 a3 (List.replicate (ji5 : Int).toNat 0) 0) else (none)) else (none)) = some r := by first | (rw [hji5] at H; exact H) | (simp only [hji5] at H ⊢; exact H)
 (try (have hji5l : 0 ≤ ji5 := by (rw [← hji5]; unfold mx; (repeat' split) <;> omega)))
 (try (have hji5m : 0 ≤ ji5 := by omega))
 have hji5_ : (if (l1.length : Int) < (l2.length : Int) then (l2.length : Int) else (l1.length : Int)) = ji5 := hji5
 (try (have hji5n_ : (if l1.length < l2.length then (l2.length : Int) else (l1.length : Int)) = ji5 := by have h_ := hji5_; simpa only [Int.ofNat_lt] using h_))
 by_cases c6 : 0 ≤ (ji5)
 ·rw [if_pos c6] at H
  have c6b0 := eq_true c6
  have c6b1 : decide (0 ≤ (ji5)) = true := decide_eq_true c6
  clear c6
  by_cases c7 : (ji5 : Int).toNat ≤ 35184372088832
  ·rw [if_pos c7] at H
   have c7b0 := eq_true c7
   have c7b1 : decide ((ji5 : Int).toNat ≤ 35184372088832) = true := decide_eq_true c7
   clear c7
   obtain ⟨y516, hy516⟩ : ∃ y_ : List Int, y_ = (List.replicate (ji5 : Int).toNat 0) := ⟨_, rfl⟩
   replace H : (spec_l01Add.l0 k a0 l1 l2 a3 y516 0) = some r := by first | (rw [hy516]; with_reducible exact H) | (have H2_ := (Option.bind_some _ _).symm.trans H; rw [hy516]; with_reducible exact H2_) | (have H2_ := (Option.bind_some _ _).symm.trans H; with_reducible exact H2_) | with_reducible exact H | (rw [hy516]; exact H) | exact H
   have Ny516 := Aside0.mk hy516
   clear hy516
   have H' := Aside0.mk H
   clear H
   go_enter Try.func103, Try.ntmps103
   go_wp2_with (first | ((with_reducible refine gate_dst (N := 17) rfl ?_); refine Kd.R_make (Kd.int .i64) _ 2 rfl (N := 17) rfl 22 _ _ rfl ji5 rfl rfl Try.underlying22 (.int .i64 0) 8 info2 rfl (by decide) (by omega) 0 (ok := fun _ => True) (okp := fun _ => True) rfl (fun _ hk => hk) trivial (of_decide_eq_true (by first | (with_reducible assumption) | assumption)) (Nat.le_trans (Nat.mul_le_mul_right _ (of_decide_eq_true (by first | (with_reducible assumption) | assumption) : ji5.toNat ≤ 35184372088832)) (by omega)) (Below.refl _ _) (Nat.le_refl _) ?_; intro v517 w8 ho9 hb hg_ hnew_; clear hg_ hnew_; (first | rw [← Ny516.out] at ho9 | (simp only [Int.reduceToNat] at ho9; rw [← Ny516.out] at ho9)); have n0_ := Aside0.mk (Kd.R_lower ho9 (below_size ZB)); have n1_ := Aside0.mk (below_step ZB hb); clear HB; have HO518 := n0_; have HB := n1_; clear n0_ n1_; clear hb ho9))
   go_loopg [10] k (fun kq v10 w' => ∃ (x9_1 : List Int) (x10_1 : Int), v10 = .int .i64 x10_1 ∧ Aside0 (spec_l01Add.l0 kq a0 l1 l2 a3 x9_1 x10_1 = some r) ∧ Aside0 (kq ≤ k) ∧ Aside0 (Kd.R (Kd.int .i64) 2 w' w.heap.size (fun _ => True) v517 x9_1) ∧ Aside0 (Below w.heap.size w w'))
   case atStart => exact ⟨(y516), (0), (by first | rfl | (simp; done) | (simp [*]; done)), H', ⟨Nat.le_refl _⟩, ⟨ZR HO518⟩, ⟨ZB⟩⟩
   case round =>
    clear H'
    try clear c1
    try clear c2
    try clear p2
    try clear c6
    try clear c6b0
    try clear c6b1
    try clear c7
    try clear c7b0
    try clear c7b1
    obtain ⟨x9_1, x10_1, rfl, HA, HK1, HO_9, HB⟩ := hrel
    cases gk with
    | zero => exact absurd HA.out (by simp [spec_l01Add.l0])
    | succ k1 =>
     have H := HA.out
     clear HA
     simp only [spec_l01Add.l0] at H
     by_cases c10 : x10_1 < (l1.length : Int)
     ·rw [if_pos c10] at H
      have c10b0 : decide (x10_1 < (l1.length : Int)) = true := decide_eq_true c10
      clear c10
      by_cases c11 : 0 ≤ x10_1
      ·rw [if_pos c11] at H
       have c11b0 : decide (0 ≤ x10_1) = true := decide_eq_true c11
       clear c11
       by_cases c12 : x10_1 < (x9_1.length : Int)
       ·rw [if_pos c12] at H
        have c12b0 : decide (x10_1 < (x9_1.length : Int)) = true := decide_eq_true c12
        clear c12
        obtain ⟨y520, hy520⟩ : ∃ y_ : List Int, y_ = (x9_1.set (x10_1 : Int).toNat (rd l1 x10_1)) := ⟨_, rfl⟩
        replace H : (spec_l01Add.l0 k1 a0 l1 l2 a3 y520 (wrap64 (x10_1 + 1))) = some r := by first | (rw [hy520]; with_reducible exact H) | (have H2_ := (Option.bind_some _ _).symm.trans H; rw [hy520]; with_reducible exact H2_) | (have H2_ := (Option.bind_some _ _).symm.trans H; with_reducible exact H2_) | with_reducible exact H | (rw [hy520]; exact H) | exact H
        have Ny520 := Aside0.mk hy520
        clear hy520
        have H' := Aside0.mk H
        clear H
        have p519 : 0 ≤ (x10_1 : Int) := of_decide_eq_true (by first | (with_reducible assumption) | assumption)
        have q519 : x10_1 < (l1.length : Int) := of_decide_eq_true (by first | (with_reducible assumption) | assumption)
        obtain ⟨ad519, e519, hx519_0⟩ := Kd.at_int HR1.out x10_1 p519 q519
        cases e519
        replace hx519_0 := (HB.out.cell (World.block_lt_of_cell? w _ hx519_0)).trans hx519_0
        replace p519 := eq_true p519
        replace q519 := eq_true q519
        have p13 : 0 ≤ (x10_1 : Int) := of_decide_eq_true (by first | (with_reducible assumption) | assumption)
        have q13 : (x10_1 : Int) < ((x9_1.length : Int) : Int) := of_decide_eq_true (by first | (with_reducible assumption) | assumption)
        obtain ⟨go13, co13, eo13, gb13, gl13, cl13, HG13⟩ := Kd.R_form HO_9.out (by omega)
        (first | cases eo13 | (injection eo13 with ea_ en_ ec_; (first | subst ea_ | (injection ea_ with ea_; subst ea_)); subst ec_; clear en_))
        have GB13 := Aside0.mk gb13
        have GG13 := Aside0.mk HG13
        clear gb13 gl13 HG13
        obtain ⟨hx13_0, hf13_0⟩ := Kd.R_celln 0 HO_9.out (x10_1 : Int) p13 q13
        replace p13 := eq_true p13
        replace q13 := eq_true q13
        have HP14 := Kd.R_putg HO_9.out (x10_1 : Int) (rd l1 x10_1)
        go_wp2_with (first | ((with_reducible refine gate_store (t := 2) (p := 30) rfl ?_); refine store_event (t := 2) (p := 30) (v := ?vo_w15) (w1 := (wr.setCell ⟨go13, (x10_1 : Int).toNat, none⟩ (.int .i64 (rd l1 x10_1)))) ?hg ?ho ?hn ?hr ?_; (case ho => rfl); (case hg => rfl); (case hn => rfl); (case hr => first | (go_simp; done) | (go_simp; rfl)); intro w15 hw; have hg : wr.grownBy w15 (some go13) := (by rw [hw]; exact HP14.2); have hp_ : Kd.R (Kd.int .i64) 2 w15 w.heap.size (fun _ => True) (.slice (some ⟨go13, 0, none⟩) x9_1.length co13) y520 := (by rw [hw, Ny520.out]; exact HP14.1); clear HP14; have n0_ := Aside0.mk (hp_); have n1_ := Aside0.mk ((by rw [hw]; exact below_set (HB.out) GB13.out : Below w.heap.size w w15)); clear HO_9; clear HB; have HO_9 := n0_; have HB := n1_; clear n0_ n1_; clear hg hw hp_))
        go_roundg k1
        case measure => have := HK1.out; omega
        case rel => exact ⟨(y520), (wrap64 (x10_1 + 1)), (by first | rfl | (simp; done) | (simp [*]; done)), H', ⟨by have := HK1.out; omega⟩, ⟨ZR HO_9⟩, ⟨ZB⟩⟩
       ·rw [if_neg c12] at H
        exact absurd H (by simp)
      ·rw [if_neg c11] at H
       exact absurd H (by simp)
     ·rw [if_neg c10] at H
      have c10b0 : decide (x10_1 < (l1.length : Int)) = false := decide_eq_false c10
      clear c10
      have H' := Aside0.mk H
      clear H
      go_wp2
      go_loopg [11] k1 (fun kq v11 w' => ∃ (x9_2 : List Int) (x11_2 : Int), v11 = .int .i64 x11_2 ∧ Aside0 (spec_l01Add.l1 kq a0 l2 a3 x9_2 x11_2 = some r) ∧ Aside0 (kq ≤ k1) ∧ Aside0 (Kd.R (Kd.int .i64) 2 w' w.heap.size (fun _ => True) v517 x9_2) ∧ Aside0 (Below w.heap.size w w'))
      case atStart => exact ⟨(x9_1), (0), (by first | rfl | (simp; done) | (simp [*]; done)), H', ⟨Nat.le_refl _⟩, ⟨ZR HO_9⟩, ⟨ZB⟩⟩
      case round =>
       clear H'
       try clear c1
       try clear p1
       try clear q1
       try clear hx1
       try clear c2
       try clear p2
       try clear p5
       try clear q5
       try clear hx5
       try clear c6
       try clear c6b0
       try clear c6b1
       try clear p6
       try clear c7
       try clear c7b0
       try clear c7b1
       try clear c10
       try clear c10b0
       try clear c11
       try clear c11b0
       try clear c12
       try clear c12b0
       try clear p13
       try clear q13
       try clear hx13
       try clear hf13
       try clear hx13_0
       try clear hx519_0
       try clear p13
       try clear p2
       try clear p519
       try clear q13
       try clear q519
       obtain ⟨x9_2, x11_2, rfl, HA, HK2, HO_9, HB⟩ := hrel
       cases gk with
       | zero => exact absurd HA.out (by simp [spec_l01Add.l1])
       | succ k2 =>
        have H := HA.out
        clear HA
        simp only [spec_l01Add.l1] at H
        by_cases c16 : x11_2 < (l2.length : Int)
        ·rw [if_pos c16] at H
         have c16b0 : decide (x11_2 < (l2.length : Int)) = true := decide_eq_true c16
         clear c16
         by_cases c17 : 0 ≤ x11_2
         ·rw [if_pos c17] at H
          have c17b0 : decide (0 ≤ x11_2) = true := decide_eq_true c17
          clear c17
          by_cases c18 : x11_2 < (x9_2.length : Int)
          ·rw [if_pos c18] at H
           have c18b0 : decide (x11_2 < (x9_2.length : Int)) = true := decide_eq_true c18
           clear c18
           replace H := Option.bind_eq_some_iff.mp H
           obtain ⟨t523, A190, H⟩ := H
           replace H : (spec_l01Add.l1 k2 a0 l2 a3 (x9_2.set (x11_2 : Int).toNat t523) (wrap64 (x11_2 + 1))) = some r := H
           have A19 := Aside0.mk A190
           clear A190
           obtain ⟨y524, hy524⟩ : ∃ y_ : List Int, y_ = (x9_2.set (x11_2 : Int).toNat t523) := ⟨_, rfl⟩
           replace H : (spec_l01Add.l1 k2 a0 l2 a3 y524 (wrap64 (x11_2 + 1))) = some r := by first | (rw [hy524]; with_reducible exact H) | (have H2_ := (Option.bind_some _ _).symm.trans H; rw [hy524]; with_reducible exact H2_) | (have H2_ := (Option.bind_some _ _).symm.trans H; with_reducible exact H2_) | with_reducible exact H | (rw [hy524]; exact H) | exact H
           have Ny524 := Aside0.mk hy524
           clear hy524
           have H' := Aside0.mk H
           clear H
           try go_wp2
           have n0_ := Aside0.mk (Kd.R_drew HO_9.out)
           have n1_ := Aside0.mk (below_drew1 HB.out)
           clear HO_9
           clear HB
           have HO_9 := n0_
           have HB := n1_
           clear n0_ n1_
           obtain ⟨Ao22, co22, eo22⟩ := Kd.R_slice HO_9.out
           (first | subst eo22 | (injection eo22 with f1_ f2_ f3_; have f4_ := f1_.symm; have f5_ := f3_.symm; clear f1_ f2_ f3_; subst f4_; subst f5_))
           have p521 : 0 ≤ (x11_2 : Int) := of_decide_eq_true (by first | (with_reducible assumption) | assumption)
           have q521 : x11_2 < (x9_2.length : Int) := of_decide_eq_true (by first | (with_reducible assumption) | assumption)
           obtain ⟨ad521, e521, hx521_0⟩ := Kd.at_int (Kd.R_reads' HO_9.out).2.2 x11_2 p521 q521
           cases e521
           replace p521 := eq_true p521
           replace q521 := eq_true q521
           have p522 : 0 ≤ (x11_2 : Int) := of_decide_eq_true (by first | (with_reducible assumption) | assumption)
           have q522 : x11_2 < (l2.length : Int) := of_decide_eq_true (by first | (with_reducible assumption) | assumption)
           obtain ⟨ad522, e522, hx522_0⟩ := Kd.at_int HR2.out x11_2 p522 q522
           have hw522_0 := hx522_0
           cases e522
           replace hx522_0 := (HB.out.cell (World.block_lt_of_cell? w _ hx522_0)).trans hx522_0
           replace p522 := eq_true p522
           replace q522 := eq_true q522
           refine start_ (n := 17) (S := fun w' => w'.cell? (ad521.add (x11_2).toNat) = some (.int .i64 (rd x9_2 x11_2)) ∧ w'.cell? (ad522.add (x11_2).toNat) = some (.int .i64 (rd l2 x11_2))) (ds := [16]) #[false, false, false, false, false, false, false, false, false, false, false, false, false, false, false, false, false] (by kernel_rfl) rfl rfl ⟨hx521_0, ((HB.out.cell (World.block_lt_of_cell? w _ hw522_0)).trans hw522_0)⟩ (fun hHeld => ?_); refine with_tabW spec_l01Add.tab9 spec_l01Add.bits9 (fun HT_ HW_ => ?_)
           generalize wr.drew = w21 at HO_9 HB hx521_0 hx522_0 hHeld ⊢
           refine Zpt 0 (some 37) (h := ?_)
           refine Zpt 1 (some 38) (h := ?_)
           refine Zpt 2 (some 39) (h := ?_)
           refine Zpt 3 (some 40) (h := ?_)
           refine Zpt 4 (some 41) (h := ?_)
           refine Zpt 5 (some 42) (h := ?_)
           refine Zpt 7 (some 44) (h := ?_)
           refine Zpt 8 (some 45) (h := ?_)
           refine Zpt 9 (some 46) (h := ?_)
           refine Zpt 10 (some 47) (h := ?_)
           refine ZtW2 6 (some 43) hHeld (h := ?_)
           refine ZtW2 11 (some 48) hHeld (h := ?_)
           refine Zpt 12 (some 49) (h := ?_)
           refine Zpt 13 (some 50) (h := ?_)
           refine one_ (i := 14) (N := some 51) #[true, true, true, true, true, true, true, true, true, true, true, true, true, true, true, false, false] rfl rfl (one_of HT_.out (by kernel_rfl)) (by decide) (fun K hK => ?_)
           refine goes_ Try.func99 (by kernel_rfl) rfl #[.int .i64 a0, .int .i64 (wrap64 ((rd x9_2 x11_2) + (wrap64 (a3 * (rd l2 x11_2)))))] (by rfl) rfl rfl ZA ?_
           with_reducible refine (spec_l01Mod.calls a0 (wrap64 ((rd x9_2 x11_2) + (wrap64 (a3 * (rd l2 x11_2))))) t523 _ A19.out).mono ?_
           rintro e w' ⟨rfl, ⟨nd, rfl⟩⟩
           refine ⟨_, rfl, ?_⟩
           have p20 : 0 ≤ (x11_2 : Int) := of_decide_eq_true (by first | (with_reducible assumption) | assumption)
           have q20 : (x11_2 : Int) < ((x9_2.length : Int) : Int) := of_decide_eq_true (by first | (with_reducible assumption) | assumption)
           obtain ⟨go20, co20, eo20, gb20, gl20, cl20, HG20⟩ := Kd.R_form HO_9.out (by omega)
           (first | cases eo20 | (injection eo20 with ea_ en_ ec_; (first | subst ea_ | (injection ea_ with ea_; subst ea_)); subst ec_; clear en_))
           have GB20 := Aside0.mk gb20
           have GG20 := Aside0.mk HG20
           clear gb20 gl20 HG20
           (first | simp only [add_plain] at hx521_0 | skip)
           obtain ⟨hx20_0, hf20_0⟩ := Kd.R_celln 0 HO_9.out (x11_2 : Int) p20 q20
           replace p20 := eq_true p20
           replace q20 := eq_true q20
           have HP23 := Kd.R_putn HO_9.out (x11_2 : Int) t523
           rw [← Ny524.out] at HP23
           have HQ23 := Aside0.mk HP23
           clear HP23
           refine hK.out _ _ ⟨hHeld.1, ((HB.out.cell (World.block_lt_of_cell? w _ hw522_0)).trans hw522_0)⟩ (fun hHeld => ?_)
           clear hK K
           refine norm_ (a' := ?_) ?_ ?_
           rotate_left
           ·show Act.put _ (some 51) _ = _
            simp only [Act.put, List.setIfInBounds_toArray, List.set_cons_zero, List.set_cons_succ, i64_w, i32_w]
            rfl
           refine Zpt 15 (some 52) (h := ?_)
           refine last_ (i := 16) (N := none) #[true, true, true, true, true, true, true, true, true, true, true, true, true, true, true, true, true] rfl rfl (one_of HT_.out (by kernel_rfl)) (by decide) (fun K hK => ?_)
           refine skip_ (w1 := ?_) (by rfl) rfl ?_ ?_
           rotate_left
           ·go_simp
            rfl
           refine hK.out _ _ ?_
           clear hK K
           refine done_ (done_of HT_.out (by kernel_rfl)) ?_
           try go_wp2
           go_roundg k2
           case measure => have := HK1.out; have := HK2.out; omega
           case rel => exact ⟨(y524), (wrap64 (x11_2 + 1)), (by first | rfl | (simp; done) | (simp [*]; done)), H', ⟨by have := HK1.out; have := HK2.out; omega⟩, ⟨ZR HQ23⟩, ⟨by repeat (first | (with_reducible first | exact HB.out | apply below_alloc | apply pw_below_drewN | apply below_drew1 | refine below_set ?_ GB20.out) | exact HB.out)⟩⟩
          ·rw [if_neg c18] at H
           exact absurd H (by simp)
         ·rw [if_neg c17] at H
          exact absurd H (by simp)
        ·rw [if_neg c16] at H
         have c16b0 : decide (x11_2 < (l2.length : Int)) = false := decide_eq_false c16
         clear c16
         replace H := Option.bind_eq_some_iff.mp H
         obtain ⟨t525, A240, H⟩ := H
         replace H : (some t525) = some r := H
         have A24 := Aside0.mk A240
         clear A240
         obtain rfl := Option.some.inj H
         obtain ⟨Ao25, co25, eo25⟩ := Kd.R_slice HO_9.out
         subst eo25
         go_wp2_with (first | ((with_reducible refine gate_callee (f := 110) rfl ?_); refine goesL_ (some 54) rfl rfl Try.func110 (by kernel_rfl) rfl #[.slice Ao25 x9_2.length co25] rfl ZA ?_; (with_reducible refine (spec_l01Trim.calls k2 _ _ x9_2 t525 _ ?side1 ?side2 A24.out).mono ?_); (case side1 => repeat (first | exact (Kd.R_reads' HO_9.out).2.2 | (with_reducible refine Kd.C_alloc ?_ _) | (with_reducible refine Kd.C_drewN ?_ _) | (with_reducible refine Kd.C_drew ?_))); (case side2 => exact (Kd.R_reads' HO_9.out).2.1); rintro e w26 ⟨v526, rfl, ho0, hb⟩; refine ⟨_, rfl, ?_⟩; have n0_ := Aside0.mk (Kd.R_elder' (ZR HO_9) (Kd.R_base ho0) hb); have n1_ := Aside0.mk (Kd.R_lower (Kd.R_new' ho0 (Kd.R_lt (ZR HO_9))) (below_size ZB)); have n2_ := Aside0.mk (below_step ZB hb); clear HO_9; clear HB; have HO_9 := n0_; have HO527 := n1_; have HB := n2_; clear n0_ n1_ n2_; (try clear hb); (try clear hb2); (try clear hk); (try clear hi); (try clear ho0)))
         go_ret
         exact ⟨_, by first | rfl | (simp [errW_none, errW_some] <;> rfl) | (simp only [← hji5]; first | rfl | (simp [errW_none, errW_some] <;> rfl)) | (simp [*, errW_none, errW_some] <;> rfl), by refine ZQ ?_; exact Kd.R_mono HO527.out (fun _ hk => trivial), ZB⟩
  ·rw [if_neg c7] at H
   exact absurd H (by simp)
 ·rw [if_neg c6] at H
  exact absurd H (by simp)

/-! ### spec_l03Step: function 109 -/
def spec_l03Step.f (k : Nat) (a0 : Int) (l1 : List Int) (l2 : List Int) (a3 : Int) (a4 : Int) : Option (List Int) := (spec_l01Mod.f a0 (wrap64 (-a3))).bind fun t528 => ((spec_l01Times.f k a0 (([t528, 1] : List Int)) l1).bind fun t532 => ((spec_l01Mod.f a0 (wrap64 (-a4))).bind fun t535 => ((spec_l01Add.f k a0 t532 l2 t535).bind fun t536 => (some t536))))
theorem spec_l03Step.mono : ∀ a0 a1 a2 a3 a4 k, LeO (spec_l03Step.f k a0 a1 a2 a3 a4) (spec_l03Step.f (k + 1) a0 a1 a2 a3 a4) := by
 intro a0 a1 a2 a3 a4 k
 unfold spec_l03Step.f
 repeat' first
   | (with_reducible exact spec_l01Add.mono _ _ _ _ _)
   | (with_reducible exact spec_l01Times.mono _ _ _ _)
   | (with_reducible exact LeO.refl _)
   | (with_reducible exact LeO.none _)
   | (with_reducible refine LeO.ite ?_ ?_)
   | (with_reducible refine LeO.bind ?_ (fun _ => ?_))
   | exact spec_l01Add.mono _ _ _ _ _
   | exact spec_l01Times.mono _ _ _ _
   | exact LeO.none _
   | refine LeO.ite ?_ ?_
   | refine LeO.bind ?_ (fun _ => ?_)
set_option maxHeartbeats 8000000 in
set_option maxRecDepth 100000 in
theorem spec_l03Step.calls (k : Nat) (a0 : Int) (A1 : Option Addr) (c1 : Nat) (l1 : List Int) (A2 : Option Addr) (c2 : Nat) (l2 : List Int) (a3 : Int) (a4 : Int) (r : List Int) (w : World) (hr1 : Kd.C (Kd.int .i64) w A1 l1.length l1) (hc1 : l1.length ≤ c1) (hr2 : Kd.C (Kd.int .i64) w A2 l2.length l2) (hc2 : l2.length ≤ c2) (h : spec_l03Step.f k a0 l1 l2 a3 a4 = some r) :
  Calls Try.prog 109 #[.int .i64 a0, .slice A1 l1.length c1, .slice A2 l2.length c2, .int .i64 a3, .int .i64 a4] w fun e w' => ∃ v0_ : Value, e = .returned (v0_) ∧ Kd.R (Kd.int .i64) 2 w' w.heap.size (fun _ => True) v0_ r ∧ Below w.heap.size w w' := by
 have HR1 := Aside0.mk hr1
 have HC1 := Aside0.mk hc1
 clear hr1 hc1
 have HR2 := Aside0.mk hr2
 have HC2 := Aside0.mk hc2
 clear hr2 hc2
 have HB := Aside0.mk (Below.refl w.heap.size w)
 have H : ((spec_l01Mod.f a0 (wrap64 (-a3))).bind fun t528 => ((spec_l01Times.f k a0 (([t528, 1] : List Int)) l1).bind fun t532 => ((spec_l01Mod.f a0 (wrap64 (-a4))).bind fun t535 => ((spec_l01Add.f k a0 t532 l2 t535).bind fun t536 => (some t536))))) = some r := h
 clear h
 replace H := Option.bind_eq_some_iff.mp H
 obtain ⟨t528, A60, H⟩ := H
 replace H : ((spec_l01Times.f k a0 (([t528, 1] : List Int)) l1).bind fun t532 => ((spec_l01Mod.f a0 (wrap64 (-a4))).bind fun t535 => ((spec_l01Add.f k a0 t532 l2 t535).bind fun t536 => (some t536)))) = some r := H
 have A6 := Aside0.mk A60
 clear A60
 obtain ⟨y529, hy529⟩ : ∃ y_ : List Int, y_ = (([t528, 1] : List Int)) := ⟨_, rfl⟩
 replace H : ((spec_l01Times.f k a0 y529 l1).bind fun t532 => ((spec_l01Mod.f a0 (wrap64 (-a4))).bind fun t535 => ((spec_l01Add.f k a0 t532 l2 t535).bind fun t536 => (some t536)))) = some r := by first | (rw [hy529]; with_reducible exact H) | (have H2_ := (Option.bind_some _ _).symm.trans H; rw [hy529]; with_reducible exact H2_) | (have H2_ := (Option.bind_some _ _).symm.trans H; with_reducible exact H2_) | with_reducible exact H | (rw [hy529]; exact H) | exact H
 have Ny529 := Aside0.mk hy529
 clear hy529
 replace H := Option.bind_eq_some_iff.mp H
 obtain ⟨t532, A70, H⟩ := H
 replace H : ((spec_l01Mod.f a0 (wrap64 (-a4))).bind fun t535 => ((spec_l01Add.f k a0 t532 l2 t535).bind fun t536 => (some t536))) = some r := H
 have A7 := Aside0.mk A70
 clear A70
 replace H := Option.bind_eq_some_iff.mp H
 obtain ⟨t535, A80, H⟩ := H
 replace H : ((spec_l01Add.f k a0 t532 l2 t535).bind fun t536 => (some t536)) = some r := H
 have A8 := Aside0.mk A80
 clear A80
 replace H := Option.bind_eq_some_iff.mp H
 obtain ⟨t536, A90, H⟩ := H
 replace H : (some t536) = some r := H
 have A9 := Aside0.mk A90
 clear A90
 obtain rfl := Option.some.inj H
 go_enter Try.func109, Try.ntmps109
 go_wp2_with (first | ((with_reducible refine gate_callee (f := 99) rfl ?_); refine goesL_ (some 16) rfl rfl Try.func99 (by kernel_rfl) rfl #[.int .i64 a0, .int .i64 (wrap64 (-a3))] rfl ZA ?_; (with_reducible refine (spec_l01Mod.calls a0 (wrap64 (-a3)) t528 _ A6.out).mono ?_); rintro e w' ⟨rfl, ⟨nd, rfl⟩⟩; refine ⟨_, rfl, ?_⟩) | ((with_reducible refine gate_dst (N := 17) rfl ?_); refine Kd.R_lit (Kd.int .i64) _ 2 ?hg (N := 17) ?hd (xs := ([t528, 1] : List Int)) (inner := [.int .i64 t528, .int .i64 1]) (ok := fun _ => True) (okp := fun _ => True) ?hr ?hp (fun _ hk => hk) trivial (Below.refl _ _) (Nat.le_refl _) (by simp) ?_; (case hd => rfl); (case hg => rfl); (case hr => first | (go_simp; done) | (go_simp; rfl)); (case hp => exact (Reps.one (show Kd.M (Kd.int .i64) _ _ _ t528 [.int .i64 t528] from rfl) (Reps.one (show Kd.M (Kd.int .i64) _ _ _ 1 [.int .i64 1] from rfl) (Reps.none _ _)))); intro v530 w10 ho11 hb hg_ hnew_; clear hg_ hnew_; (first | rw [← Ny529.out] at ho11 | (simp only [Int.reduceToNat] at ho11; rw [← Ny529.out] at ho11)); have n0_ := Aside0.mk (Kd.R_lower ho11 (below_size ZB)); have n1_ := Aside0.mk (below_step ZB hb); clear HB; have HO531 := n0_; have HB := n1_; clear n0_ n1_; clear hb ho11; obtain ⟨Ao12, co12, eo12⟩ := Kd.R_slice HO531.out; subst eo12) | ((with_reducible refine gate_callee (f := 77) rfl ?_); refine goesL_ (some 19) rfl rfl Try.func77 (by kernel_rfl) rfl #[.int .i64 a0, .slice Ao12 y529.length co12, .slice A1 l1.length c1] rfl ZA ?_; (with_reducible refine (spec_l01Times.calls k a0 _ _ y529 _ _ l1 t532 _ ?side1 ?side2 ?side3 ?side4 A7.out).mono ?_); (case side1 => repeat (first | exact (Kd.R_reads' HO531.out).2.2 | (with_reducible refine Kd.C_alloc ?_ _) | (with_reducible refine Kd.C_drewN ?_ _) | (with_reducible refine Kd.C_drew ?_))); (case side2 => exact (Kd.R_reads' HO531.out).2.1); (case side3 => exact ZC HR1); (case side4 => exact HC1.out); rintro e w13 ⟨v533, rfl, ho0, hb⟩; refine ⟨_, rfl, ?_⟩; have n0_ := Aside0.mk (Kd.R_elder' (ZR HO531) (Kd.R_base ho0) hb); have n1_ := Aside0.mk (Kd.R_lower (Kd.R_new' ho0 (Kd.R_lt (ZR HO531))) (below_size ZB)); have n2_ := Aside0.mk (below_step ZB hb); clear HO531; clear HB; have HO531 := n0_; have HO534 := n1_; have HB := n2_; clear n0_ n1_ n2_; (try clear hb); (try clear hb2); (try clear hk); (try clear hi); (try clear ho0)) | ((with_reducible refine gate_callee (f := 99) rfl ?_); refine goesL_ (some 24) rfl rfl Try.func99 (by kernel_rfl) rfl #[.int .i64 a0, .int .i64 (wrap64 (-a4))] rfl ZA ?_; (with_reducible refine (spec_l01Mod.calls a0 (wrap64 (-a4)) t535 _ A8.out).mono ?_); rintro e w' ⟨rfl, ⟨nd, rfl⟩⟩; refine ⟨_, rfl, ?_⟩; obtain ⟨Ao14, co14, eo14⟩ := Kd.R_slice HO534.out; subst eo14) | ((with_reducible refine gate_callee (f := 103) rfl ?_); refine goesL_ (some 25) rfl rfl Try.func103 (by kernel_rfl) rfl #[.int .i64 a0, .slice Ao14 t532.length co14, .slice A2 l2.length c2, .int .i64 t535] rfl ZA ?_; (with_reducible refine (spec_l01Add.calls k a0 _ _ t532 _ _ l2 t535 t536 _ ?side1 ?side2 ?side3 ?side4 A9.out).mono ?_); (case side1 => repeat (first | exact (Kd.R_reads' HO534.out).2.2 | (with_reducible refine Kd.C_alloc ?_ _) | (with_reducible refine Kd.C_drewN ?_ _) | (with_reducible refine Kd.C_drew ?_))); (case side2 => exact (Kd.R_reads' HO534.out).2.1); (case side3 => exact ZE HR2); (case side4 => exact HC2.out); rintro e w15 ⟨v537, rfl, ho0, hb⟩; refine ⟨_, rfl, ?_⟩; have n0_ := Aside0.mk (Kd.R_elder' (ZR HO531) (Kd.R_base ho0) hb); have n1_ := Aside0.mk (Kd.R_elder' (ZR HO534) (Kd.R_base ho0) hb); have n2_ := Aside0.mk (Kd.R_lower (Kd.R_new' (Kd.R_new' ho0 (Kd.R_lt (ZR HO531))) (Kd.R_lt (ZR HO534))) (below_size ZB)); have n3_ := Aside0.mk (below_step ZB hb); clear HO531; clear HO534; clear HB; have HO531 := n0_; have HO534 := n1_; have HO538 := n2_; have HB := n3_; clear n0_ n1_ n2_ n3_; (try clear hb); (try clear hb2); (try clear hk); (try clear hi); (try clear ho0)))
 go_ret
 exact ⟨_, by first | rfl | (simp [errW_none, errW_some] <;> rfl) | (simp [*, errW_none, errW_some] <;> rfl), by refine ZQ ?_; exact Kd.R_mono HO538.out (fun _ hk => trivial), ZB⟩

/-! ### spec_l03Poly: function 75 -/
def spec_l03Poly.l0 : Nat → Int → List Int → List Int → Int → Int → List Int → List Int → Option (List Int)
 | 0, _, _, _, _, _, _, _ => none
 | k + 1, x1, x5, x6, x7, x540000, x540001, x540002 => if x7 < x1 then (if 0 ≤ x7 then (if x7 < (x540001.length : Int) then (if x7 < (x540002.length : Int) then ((spec_l03Step.f k x540000 x6 x5 (rd x540001 x7) (rd x540002 x7)).bind fun t548 => (spec_l03Poly.l0 k x1 x6 t548 (wrap64 (x7 + 1)) x540000 x540001 x540002)) else (none)) else (none)) else (none)) else (some x6)
def spec_l03Poly.f (k : Nat) (a0_0 : Int) (l0_1 : List Int) (l0_2 : List Int) (a1 : Int) : Option (List Int) := spec_l03Poly.l0 k a1 (([] : List Int)) (([1] : List Int)) 0 a0_0 l0_1 l0_2
theorem spec_l03Poly.mono_l : ∀ k, (∀ y0 y1 y2 y3 y4 y5 y6, LeO (spec_l03Poly.l0 k y0 y1 y2 y3 y4 y5 y6) (spec_l03Poly.l0 (k + 1) y0 y1 y2 y3 y4 y5 y6))
 | 0 => fun _ _ _ _ _ _ _ r h => by simp [spec_l03Poly.l0] at h
 | k + 1 => by
  have ih0 := spec_l03Poly.mono_l k
  ·intro y0 y1 y2 y3 y4 y5 y6
   unfold spec_l03Poly.l0
   repeat' first
   | (with_reducible exact ih0 _ _ _ _ _ _ _)
   | (with_reducible exact spec_l03Step.mono _ _ _ _ _ _)
   | (with_reducible exact LeO.refl _)
   | (with_reducible exact LeO.none _)
   | (with_reducible refine LeO.ite ?_ ?_)
   | (with_reducible refine LeO.bind ?_ (fun _ => ?_))
   | exact ih0 _ _ _ _ _ _ _
   | exact spec_l03Step.mono _ _ _ _ _ _
   | exact LeO.none _
   | refine LeO.ite ?_ ?_
   | refine LeO.bind ?_ (fun _ => ?_)
theorem spec_l03Poly.mono : ∀ a0 a1 a2 a3 k, LeO (spec_l03Poly.f k a0 a1 a2 a3) (spec_l03Poly.f (k + 1) a0 a1 a2 a3) := by
 intro a0 a1 a2 a3 k
 have ih0 := spec_l03Poly.mono_l k
 unfold spec_l03Poly.f
 repeat' first
   | (with_reducible exact ih0 _ _ _ _ _ _ _)
   | (with_reducible exact spec_l03Step.mono _ _ _ _ _ _)
   | (with_reducible exact LeO.refl _)
   | (with_reducible exact LeO.none _)
   | (with_reducible refine LeO.ite ?_ ?_)
   | (with_reducible refine LeO.bind ?_ (fun _ => ?_))
   | exact ih0 _ _ _ _ _ _ _
   | exact spec_l03Step.mono _ _ _ _ _ _
   | exact LeO.none _
   | refine LeO.ite ?_ ?_
   | refine LeO.bind ?_ (fun _ => ?_)
def spec_l03Poly.T5 : Bool × List (List Nat × List Nat) := (true, [([], []), ([0], [0]), ([], []), ([], []), ([], []), ([4], [4]), ([], []), ([5, 6], [5, 6]), ([7], [7]), ([], []), ([9], [9]), ([], []), ([10, 11], [10, 11]), ([12], [12]), ([1, 2, 3, 8, 13], [1, 2, 3, 8, 13]), ([14, 14, 0, 1, 2, 3, 4, 5, 6, 7, 8, 9, 10, 11, 12, 13, 14], [14])])
def spec_l03Poly.B5 : List Nat := [0, 1, 0, 0, 0, 16, 0, 112, 240, 0, 512, 0, 3584, 7680, 16383, 32767]
theorem spec_l03Poly.tab5 : rtab .any (opsOf Try.f75 5) = spec_l03Poly.T5 := by kernel_rfl
theorem spec_l03Poly.bits5 : waitsOk spec_l03Poly.T5.2 spec_l03Poly.B5 = true := by kernel_rfl
set_option maxHeartbeats 8000000 in
set_option maxRecDepth 100000 in
theorem spec_l03Poly.calls (k : Nat) (a0_0 : Int) (A0_1 : Option Addr) (c0_1 : Nat) (l0_1 : List Int) (A0_2 : Option Addr) (c0_2 : Nat) (l0_2 : List Int) (a1 : Int) (r : List Int) (w : World) (hr0_1 : Kd.C (Kd.int .i64) w A0_1 l0_1.length l0_1) (hc0_1 : l0_1.length ≤ c0_1) (hr0_2 : Kd.C (Kd.int .i64) w A0_2 l0_2.length l0_2) (hc0_2 : l0_2.length ≤ c0_2) (h : spec_l03Poly.f k a0_0 l0_1 l0_2 a1 = some r) :
  Calls Try.prog 75 #[.agg #[.int .i64 a0_0, .slice A0_1 l0_1.length c0_1, .slice A0_2 l0_2.length c0_2], .int .i64 a1] w fun e w' => ∃ v0_ : Value, e = .returned (v0_) ∧ Kd.R (Kd.int .i64) 2 w' w.heap.size (fun _ => True) v0_ r ∧ Below w.heap.size w w' := by
 have hu29 := Try.underlying29
 have HR0_1 := Aside0.mk hr0_1
 have HC0_1 := Aside0.mk hc0_1
 clear hr0_1 hc0_1
 have HR0_2 := Aside0.mk hr0_2
 have HC0_2 := Aside0.mk hc0_2
 clear hr0_2 hc0_2
 have HB := Aside0.mk (Below.refl w.heap.size w)
 have H : (spec_l03Poly.l0 k a1 (([] : List Int)) (([1] : List Int)) 0 a0_0 l0_1 l0_2) = some r := h
 clear h
 obtain ⟨y540, hy540⟩ : ∃ y_ : List Int, y_ = (([] : List Int)) := ⟨_, rfl⟩
 replace H : (spec_l03Poly.l0 k a1 y540 (([1] : List Int)) 0 a0_0 l0_1 l0_2) = some r := by first | (rw [hy540]; with_reducible exact H) | (have H2_ := (Option.bind_some _ _).symm.trans H; rw [hy540]; with_reducible exact H2_) | (have H2_ := (Option.bind_some _ _).symm.trans H; with_reducible exact H2_) | with_reducible exact H | (rw [hy540]; exact H) | exact H
 have Ny540 := Aside0.mk hy540
 clear hy540
 obtain ⟨y543, hy543⟩ : ∃ y_ : List Int, y_ = (([1] : List Int)) := ⟨_, rfl⟩
 replace H : (spec_l03Poly.l0 k a1 y540 y543 0 a0_0 l0_1 l0_2) = some r := by first | (rw [hy543]; with_reducible exact H) | (have H2_ := (Option.bind_some _ _).symm.trans H; rw [hy543]; with_reducible exact H2_) | (have H2_ := (Option.bind_some _ _).symm.trans H; with_reducible exact H2_) | with_reducible exact H | (rw [hy543]; exact H) | exact H
 have Ny543 := Aside0.mk hy543
 clear hy543
 have H' := Aside0.mk H
 clear H
 go_enter Try.func75, Try.ntmps75
 go_wp2_with (first | ((with_reducible refine gate_dst (N := 2) rfl ?_); refine box_event ?hg (N := 2) ?hd (cs := #[.int .i64 a0_0, .slice A0_1 l0_1.length c0_1, .slice A0_2 l0_2.length c0_2]) (t := 29) ?hr ?_; (case hd => rfl); (case hg => rfl); (case hr => first | (go_simp; done) | (go_simp; rfl)); intro gb539 hg w3 hbox hb; have n0_ := Aside0.mk (below_step ZB hb); have n1_ := Aside0.mk (hbox); have n2_ := Aside0.mk ((ZG hg : w.heap.size ≤ gb539)); have n3_ := Aside0.mk ((ZG hg : w.heap.size ≤ gb539)); clear HB; have HB := n0_; have BK539 := n1_; have GW539 := n2_; have GE539 := n3_; clear n0_ n1_ n2_ n3_; clear hb hbox hg) | ((with_reducible refine gate_dst (N := 9) rfl ?_); refine Kd.R_lit (Kd.int .i64) _ 2 ?hg (N := 9) ?hd (xs := ([] : List Int)) (inner := []) (ok := fun _ => True) (okp := fun _ => True) ?hr ?hp (fun _ hk => hk) trivial (Below.refl _ _) (Nat.le_refl _) (by simp) ?_; (case hd => rfl); (case hg => rfl); (case hr => first | (go_simp; done) | (go_simp; rfl)); (case hp => exact (Reps.none _ _)); intro v541 w4 ho5 hb hg_ hnew_; clear hg_ hnew_; (first | rw [← Ny540.out] at ho5 | (simp only [Int.reduceToNat] at ho5; rw [← Ny540.out] at ho5)); have n0_ := Aside0.mk (Kd.R_lower ho5 (below_size ZB)); have n1_ := ZL BK539 hb; have n2_ := Aside0.mk (below_step ZB hb); clear BK539; clear HB; have HO542 := n0_; have BK539 := n1_; have HB := n2_; clear n0_ n1_ n2_; clear hb ho5) | ((with_reducible refine gate_dst (N := 10) rfl ?_); refine Kd.R_lit (Kd.int .i64) _ 2 ?hg (N := 10) ?hd (xs := ([1] : List Int)) (inner := [.int .i64 1]) (ok := fun _ => True) (okp := fun _ => True) ?hr ?hp (fun _ hk => hk) trivial (Below.refl _ _) (Nat.le_refl _) (by simp) ?_; (case hd => rfl); (case hg => rfl); (case hr => first | (go_simp; done) | (go_simp; rfl)); (case hp => exact (Reps.one (show Kd.M (Kd.int .i64) _ _ _ 1 [.int .i64 1] from rfl) (Reps.none _ _))); intro v544 w6 ho7 hb hg_ hnew_; clear hg_ hnew_; (first | rw [← Ny543.out] at ho7 | (simp only [Int.reduceToNat] at ho7; rw [← Ny543.out] at ho7)); have n0_ := Aside0.mk (Kd.R_elder' (ZR HO542) (Kd.R_base ho7) hb); have n1_ := Aside0.mk (Kd.R_lower (Kd.R_new' ho7 (Kd.R_lt (ZR HO542))) (below_size ZB)); have n2_ := ZL BK539 hb; have n3_ := Aside0.mk (below_step ZB hb); clear HO542; clear BK539; clear HB; have HO542 := n0_; have HO545 := n1_; have BK539 := n2_; have HB := n3_; clear n0_ n1_ n2_ n3_; clear hb ho7))
 go_loopg [5, 6, 7] k (fun kq v5 v6 v7 w' => ∃ (x5_1 : List Int) (x6_1 : List Int) (x7_1 : Int), v7 = .int .i64 x7_1 ∧ Aside0 (spec_l03Poly.l0 kq a1 x5_1 x6_1 x7_1 a0_0 l0_1 l0_2 = some r) ∧ Aside0 (kq ≤ k) ∧ Aside0 (Kd.R (Kd.int .i64) 2 w' w.heap.size (fun k_ => some k_ ≠ (v6 : Value).ownBlock) v5 x5_1) ∧ Aside0 (Kd.R (Kd.int .i64) 2 w' w.heap.size (fun k_ => some k_ ≠ (v5 : Value).ownBlock) v6 x6_1) ∧ Aside0 (w'.heap[gb539]? = some (.cells #[.int .i64 a0_0, (.slice A0_1 l0_1.length c0_1), (.slice A0_2 l0_2.length c0_2)] 29 (0, 0))) ∧ Aside0 (Below w.heap.size w w'))
 case atStart => exact ⟨(y540), (y543), (0), (by first | rfl | (simp; done) | (simp [*]; done)), H', ⟨Nat.le_refl _⟩, ⟨by refine ZQ ?_; exact Kd.R_mono HO542.out (fun _ hk => hk.2)⟩, ⟨by refine ZQ ?_; exact Kd.R_mono HO545.out (fun _ hk => hk.2)⟩, ⟨ZK BK539⟩, ⟨ZB⟩⟩
 case round =>
  clear H'
  try clear p2
  try clear c7
  obtain ⟨x5_1, x6_1, x7_1, rfl, HA, HK1, HO_5, HO_6, BK539, HB⟩ := hrel
  cases gk with
  | zero => exact absurd HA.out (by simp [spec_l03Poly.l0])
  | succ k1 =>
   have H := HA.out
   clear HA
   simp only [spec_l03Poly.l0] at H
   by_cases c8 : x7_1 < a1
   ·rw [if_pos c8] at H
    have c8b0 : decide (x7_1 < a1) = true := decide_eq_true c8
    clear c8
    by_cases c9 : 0 ≤ x7_1
    ·rw [if_pos c9] at H
     have c9b0 : decide (0 ≤ x7_1) = true := decide_eq_true c9
     clear c9
     by_cases c10 : x7_1 < (l0_1.length : Int)
     ·rw [if_pos c10] at H
      have c10b0 : decide (x7_1 < (l0_1.length : Int)) = true := decide_eq_true c10
      clear c10
      by_cases c11 : x7_1 < (l0_2.length : Int)
      ·rw [if_pos c11] at H
       have c11b0 : decide (x7_1 < (l0_2.length : Int)) = true := decide_eq_true c11
       clear c11
       replace H := Option.bind_eq_some_iff.mp H
       obtain ⟨t548, A120, H⟩ := H
       replace H : (spec_l03Poly.l0 k1 a1 x6_1 t548 (wrap64 (x7_1 + 1)) a0_0 l0_1 l0_2) = some r := H
       have A12 := Aside0.mk A120
       clear A120
       have H' := Aside0.mk H
       clear H
       try go_wp2
       have n0_ := Aside0.mk (Kd.R_drew HO_5.out)
       have n1_ := Aside0.mk (Kd.R_drew HO_6.out)
       have n2_ := Aside0.mk (blk_drew BK539.out)
       have n3_ := Aside0.mk (below_drew1 HB.out)
       clear HO_5
       clear HO_6
       clear BK539
       clear HB
       have HO_5 := n0_
       have HO_6 := n1_
       have BK539 := n2_
       have HB := n3_
       clear n0_ n1_ n2_ n3_
       have p546 : 0 ≤ (x7_1 : Int) := of_decide_eq_true (by first | (with_reducible assumption) | assumption)
       have q546 : x7_1 < (l0_1.length : Int) := of_decide_eq_true (by first | (with_reducible assumption) | assumption)
       obtain ⟨ad546, e546, hx546_0⟩ := Kd.at_int HR0_1.out x7_1 p546 q546
       have hw546_0 := hx546_0
       cases e546
       replace hx546_0 := (HB.out.cell (World.block_lt_of_cell? w _ hx546_0)).trans hx546_0
       replace p546 := eq_true p546
       replace q546 := eq_true q546
       have p547 : 0 ≤ (x7_1 : Int) := of_decide_eq_true (by first | (with_reducible assumption) | assumption)
       have q547 : x7_1 < (l0_2.length : Int) := of_decide_eq_true (by first | (with_reducible assumption) | assumption)
       obtain ⟨ad547, e547, hx547_0⟩ := Kd.at_int HR0_2.out x7_1 p547 q547
       have hw547_0 := hx547_0
       cases e547
       replace hx547_0 := (HB.out.cell (World.block_lt_of_cell? w _ hx547_0)).trans hx547_0
       replace p547 := eq_true p547
       replace q547 := eq_true q547
       obtain ⟨Ao14, co14, eo14⟩ := Kd.R_slice HO_6.out
       (first | subst eo14 | (injection eo14 with f1_ f2_ f3_; have f4_ := f1_.symm; have f5_ := f3_.symm; clear f1_ f2_ f3_; subst f4_; subst f5_))
       obtain ⟨Ao15, co15, eo15⟩ := Kd.R_slice HO_5.out
       (first | subst eo15 | (injection eo15 with f1_ f2_ f3_; have f4_ := f1_.symm; have f5_ := f3_.symm; clear f1_ f2_ f3_; subst f4_; subst f5_))
       refine start_ (n := 16) (S := fun w' => w'.cell? ⟨gb539, 0, none⟩ = some (.int .i64 a0_0) ∧ w'.cell? ⟨gb539, 1, none⟩ = some (.slice (some ad546) l0_1.length c0_1) ∧ w'.cell? ⟨gb539, 2, none⟩ = some (.slice (some ad547) l0_2.length c0_2) ∧ w'.cell? (ad546.add (x7_1).toNat) = some (.int .i64 (rd l0_1 x7_1)) ∧ w'.cell? (ad547.add (x7_1).toNat) = some (.int .i64 (rd l0_2 x7_1))) (ds := []) #[false, false, false, false, false, false, false, false, false, false, false, false, false, false, false, false] (by kernel_rfl) rfl rfl ⟨(blk_cell BK539.out 0).trans rfl, (blk_cell BK539.out 1).trans rfl, (blk_cell BK539.out 2).trans rfl, ((HB.out.cell (World.block_lt_of_cell? w _ hw546_0)).trans hw546_0), ((HB.out.cell (World.block_lt_of_cell? w _ hw547_0)).trans hw547_0)⟩ (fun hHeld => ?_); refine with_tabW spec_l03Poly.tab5 spec_l03Poly.bits5 (fun HT_ HW_ => ?_)
       generalize wr.drew = w13 at HO_5 HO_6 BK539 HB hx546_0 hx547_0 hHeld ⊢
       refine Zpt 0 (some 16) (h := ?_)
       refine Zpt 2 (some 18) (h := ?_)
       refine Zpt 3 (some 19) (h := ?_)
       refine Zpt 4 (some 20) (h := ?_)
       refine Zpt 6 (some 22) (h := ?_)
       refine Zpt 9 (some 25) (h := ?_)
       refine Zpt 11 (some 27) (h := ?_)
       refine ZtW5 1 (some 17) hHeld (h := ?_)
       refine ZtW5 5 (some 21) hHeld (h := ?_)
       refine Zpt 7 (some 23) (h := ?_)
       refine ZtW5 8 (some 24) hHeld (h := ?_)
       refine ZtW5 10 (some 26) hHeld (h := ?_)
       refine Zpt 12 (some 28) (h := ?_)
       refine ZtW5 13 (some 29) hHeld (h := ?_)
       refine one_ (i := 14) (N := some 30) #[true, true, true, true, true, true, true, true, true, true, true, true, true, true, true, false] rfl rfl (one_of HT_.out (by kernel_rfl)) (by decide) (fun K hK => ?_)
       refine goes_ Try.func109 (by kernel_rfl) rfl #[.int .i64 a0_0, .slice Ao14 x6_1.length co14, .slice Ao15 x5_1.length co15, .int .i64 (rd l0_1 x7_1), .int .i64 (rd l0_2 x7_1)] (by rfl) rfl rfl ZA ?_
       with_reducible refine (spec_l03Step.calls k1 a0_0 _ _ x6_1 _ _ x5_1 (rd l0_1 x7_1) (rd l0_2 x7_1) t548 _ ?side1 ?side2 ?side3 ?side4 A12.out).mono ?_
       (case side1 => repeat (first | exact (Kd.R_reads' HO_6.out).2.2 | (with_reducible refine Kd.C_alloc ?_ _) | (with_reducible refine Kd.C_drewN ?_ _) | (with_reducible refine Kd.C_drew ?_)))
       (case side2 => exact (Kd.R_reads' HO_6.out).2.1)
       (case side3 => repeat (first | exact (Kd.R_reads' HO_5.out).2.2 | (with_reducible refine Kd.C_alloc ?_ _) | (with_reducible refine Kd.C_drewN ?_ _) | (with_reducible refine Kd.C_drew ?_)))
       (case side4 => exact (Kd.R_reads' HO_5.out).2.1)
       rintro e w16 ⟨v549, rfl, ho0, hb⟩
       refine ⟨_, rfl, ?_⟩
       have n0_ := Aside0.mk (Kd.R_elder' (ZR HO_5) (Kd.R_base ho0) hb)
       have n1_ := Aside0.mk (Kd.R_elder' (ZR HO_6) (Kd.R_base ho0) hb)
       have n2_ := Aside0.mk (Kd.R_lower (Kd.R_new' (Kd.R_new' ho0 (Kd.R_lt (ZR HO_5))) (Kd.R_lt (ZR HO_6))) (below_size ZB))
       have n3_ := ZL BK539 hb
       have n4_ := Aside0.mk (below_step ZB hb)
       clear HO_5
       clear HO_6
       clear BK539
       clear HB
       have HO_5 := n0_
       have HO_6 := n1_
       have HO550 := n2_
       have BK539 := n3_
       have HB := n4_
       clear n0_ n1_ n2_ n3_ n4_
       (try clear hb)
       (try clear hb2)
       (try clear hk)
       (try clear hi)
       (try clear ho0)
       refine hK.out _ _ ⟨(blk_cell BK539.out 0).trans rfl, (blk_cell BK539.out 1).trans rfl, (blk_cell BK539.out 2).trans rfl, ((HB.out.cell (World.block_lt_of_cell? w _ hw546_0)).trans hw546_0), ((HB.out.cell (World.block_lt_of_cell? w _ hw547_0)).trans hw547_0)⟩ (fun hHeld => ?_)
       clear hK K
       refine norm_ (a' := ?_) ?_ ?_
       rotate_left
       ·show Act.put _ (some 30) _ = _
        simp only [Act.put, List.setIfInBounds_toArray, List.set_cons_zero, List.set_cons_succ, i64_w, i32_w]
        rfl
       refine Zpt 15 (some 8) (h := ?_)
       refine done_ (done_of HT_.out (by kernel_rfl)) ?_
       try go_wp2
       go_roundg k1
       case measure => have := HK1.out; omega
       case rel => exact ⟨(x6_1), (t548), (wrap64 (x7_1 + 1)), (by first | rfl | (simp; done) | (simp [*]; done)), H', ⟨by have := HK1.out; omega⟩, ⟨by refine ZQ ?_; exact Kd.R_mono HO_6.out (fun _ hk => hk.2)⟩, ⟨by refine ZQ ?_; exact Kd.R_mono HO550.out (fun _ hk => hk.2)⟩, ⟨ZK BK539⟩, ⟨ZB⟩⟩
      ·rw [if_neg c11] at H
       exact absurd H (by simp)
     ·rw [if_neg c10] at H
      exact absurd H (by simp)
    ·rw [if_neg c9] at H
     exact absurd H (by simp)
   ·rw [if_neg c8] at H
    have c8b0 : decide (x7_1 < a1) = false := decide_eq_false c8
    clear c8
    obtain rfl := Option.some.inj H
    go_wp2
    go_ret
    exact ⟨_, by first | rfl | (simp [errW_none, errW_some] <;> rfl) | (simp [*, errW_none, errW_some] <;> rfl), by refine ZQ ?_; exact Kd.R_mono HO_6.out (fun _ hk => trivial), ZB⟩

end Go.Proofs.Ytaclapojgdekpaa.X
