/- Contracts of functions that the law reaches, printed by a program of this session; Lean checks them. -/
import Derived.Test.YtaclapojgdekpaaCExpandDerivativeX0
import Derived.Test.YtaclapojgdekpaaCExpandDerivativeX1
import Derived.Test.YtaclapojgdekpaaCExpandDerivativeX14
import Derived.Test.YtaclapojgdekpaaCExpandDerivativeX16
import Derived.Test.YtaclapojgdekpaaCExpandDerivativeX17
import Derived.Test.YtaclapojgdekpaaCExpandDerivativeX18
import Derived.Test.YtaclapojgdekpaaCExpandDerivativeX2
import Derived.Test.YtaclapojgdekpaaCExpandDerivativeX22
import Derived.Test.YtaclapojgdekpaaCExpandDerivativeX5
import Derived.Test.YtaclapojgdekpaaCExpandDerivativeXZ
namespace Go.Proofs.Ytaclapojgdekpaa.X
open Go.RowKit Go.Proofs.YtaclapojgdekpaaW.PrintWords Go.Proofs.YtaclapojgdekpaaW.PrintLast Go.Proofs.YtaclapojgdekpaaW.PrintMore
attribute [local go_sem] max2_int min2_int max_two min_two max_three min_three max_four min_four   -- for this text's walks alone
set_option linter.unusedVariables false
set_option linter.unusedSimpArgs false

/-! ### spec_l01Derive: function 86 -/
def spec_l01Derive.l0 : Nat → Int → List Int → List Int → Int → Option (List Int)
 | 0, _, _, _, _ => none
 | k + 1, x0, x1, x5, x6 => if x6 < (x1.length : Int) then (if 0 ≤ x6 then (if x0 = 0 then (none) else (if x5.length < 17592186044416 then (spec_l01Derive.l0 k x0 x1 (x5 ++ [Int.tmod (wrap64 (x6 * (rd x1 x6))) x0]) (wrap64 (x6 + 1))) else (none))) else (none)) else ((spec_l01Trim.f k x5).bind fun t1074 => (some t1074))
def spec_l01Derive.f (k : Nat) (a0 : Int) (l1 : List Int) : Option (List Int) := spec_l01Derive.l0 k a0 l1 (([] : List Int)) 1
theorem spec_l01Derive.mono_l : ∀ k, (∀ y0 y1 y2 y3, LeO (spec_l01Derive.l0 k y0 y1 y2 y3) (spec_l01Derive.l0 (k + 1) y0 y1 y2 y3))
 | 0 => fun _ _ _ _ r h => by simp [spec_l01Derive.l0] at h
 | k + 1 => by
  have ih0 := spec_l01Derive.mono_l k
  ·intro y0 y1 y2 y3
   unfold spec_l01Derive.l0
   repeat' first
   | (with_reducible exact ih0 _ _ _ _)
   | (with_reducible exact spec_l01Trim.mono _ _)
   | (with_reducible exact LeO.refl _)
   | (with_reducible exact LeO.none _)
   | (with_reducible refine LeO.ite ?_ ?_)
   | (with_reducible refine LeO.bind ?_ (fun _ => ?_))
   | exact ih0 _ _ _ _
   | exact spec_l01Trim.mono _ _
   | exact LeO.none _
   | refine LeO.ite ?_ ?_
   | refine LeO.bind ?_ (fun _ => ?_)
theorem spec_l01Derive.mono : ∀ a0 a1 k, LeO (spec_l01Derive.f k a0 a1) (spec_l01Derive.f (k + 1) a0 a1) := by
 intro a0 a1 k
 have ih0 := spec_l01Derive.mono_l k
 unfold spec_l01Derive.f
 repeat' first
   | (with_reducible exact ih0 _ _ _ _)
   | (with_reducible exact spec_l01Trim.mono _ _)
   | (with_reducible exact LeO.refl _)
   | (with_reducible exact LeO.none _)
   | (with_reducible refine LeO.ite ?_ ?_)
   | (with_reducible refine LeO.bind ?_ (fun _ => ?_))
   | exact ih0 _ _ _ _
   | exact spec_l01Trim.mono _ _
   | exact LeO.none _
   | refine LeO.ite ?_ ?_
   | refine LeO.bind ?_ (fun _ => ?_)
set_option maxHeartbeats 8000000 in
set_option maxRecDepth 100000 in
theorem spec_l01Derive.calls (k : Nat) (a0 : Int) (A1 : Option Addr) (c1 : Nat) (l1 : List Int) (r : List Int) (w : World) (hr1 : Kd.C (Kd.int .i64) w A1 l1.length l1) (hc1 : l1.length ≤ c1) (h : spec_l01Derive.f k a0 l1 = some r) :
  Calls Try.prog 86 #[.int .i64 a0, .slice A1 l1.length c1] w fun e w' => ∃ v0_ : Value, e = .returned (v0_) ∧ Kd.R (Kd.int .i64) 2 w' w.heap.size (fun _ => True) v0_ r ∧ Below w.heap.size w w' := by
 have HR1 := Aside0.mk hr1
 have HC1 := Aside0.mk hc1
 clear hr1 hc1
 have HB := Aside0.mk (Below.refl w.heap.size w)
 have H : (spec_l01Derive.l0 k a0 l1 (([] : List Int)) 1) = some r := h
 clear h
 obtain ⟨y1067, hy1067⟩ : ∃ y_ : List Int, y_ = (([] : List Int)) := ⟨_, rfl⟩
 replace H : (spec_l01Derive.l0 k a0 l1 y1067 1) = some r := by first | (rw [hy1067]; with_reducible exact H) | (have H2_ := (Option.bind_some _ _).symm.trans H; rw [hy1067]; with_reducible exact H2_) | (have H2_ := (Option.bind_some _ _).symm.trans H; with_reducible exact H2_) | with_reducible exact H | (rw [hy1067]; exact H) | exact H
 have Ny1067 := Aside0.mk hy1067
 clear hy1067
 have H' := Aside0.mk H
 clear H
 go_enter Try.func86, Try.ntmps86
 go_wp2_with (first | ((with_reducible refine gate_dst (N := 7) rfl ?_); refine Kd.R_lit (Kd.int .i64) _ 2 ?hg (N := 7) ?hd (xs := ([] : List Int)) (inner := []) (ok := fun _ => True) (okp := fun _ => True) ?hr ?hp (fun _ hk => hk) trivial (Below.refl _ _) (Nat.le_refl _) (by simp) ?_; (case hd => rfl); (case hg => rfl); (case hr => first | (go_simp; done) | (go_simp; rfl)); (case hp => exact (Reps.none _ _)); intro v1068 w3 ho4 hb hg_ hnew_; clear hg_ hnew_; (first | rw [← Ny1067.out] at ho4 | (simp only [Int.reduceToNat] at ho4; rw [← Ny1067.out] at ho4)); have n0_ := Aside0.mk (Kd.R_lower ho4 (below_size ZB)); have n1_ := Aside0.mk (below_step ZB hb); clear HB; have HO1069 := n0_; have HB := n1_; clear n0_ n1_; clear hb ho4))
 go_loopg [5, 6] k (fun kq v5 v6 w' => ∃ (x5_1 : List Int) (x6_1 : Int), v6 = .int .i64 x6_1 ∧ Aside0 (spec_l01Derive.l0 kq a0 l1 x5_1 x6_1 = some r) ∧ Aside0 (kq ≤ k) ∧ Aside0 (Kd.R (Kd.int .i64) 2 w' w.heap.size (fun _ => True) v5 x5_1) ∧ Aside0 (Below w.heap.size w w'))
 case atStart => exact ⟨(y1067), (1), (by first | rfl | (simp; done) | (simp [*]; done)), H', ⟨Nat.le_refl _⟩, ⟨ZR HO1069⟩, ⟨ZB⟩⟩
 case round =>
  clear H'
  try clear c1
  try clear p2
  obtain ⟨x5_1, x6_1, rfl, HA, HK1, HO_5, HB⟩ := hrel
  cases gk with
  | zero => exact absurd HA.out (by simp [spec_l01Derive.l0])
  | succ k1 =>
   have H := HA.out
   clear HA
   simp only [spec_l01Derive.l0] at H
   by_cases c5 : x6_1 < (l1.length : Int)
   ·rw [if_pos c5] at H
    have c5b0 : decide (x6_1 < (l1.length : Int)) = true := decide_eq_true c5
    clear c5
    by_cases c6 : 0 ≤ x6_1
    ·rw [if_pos c6] at H
     have c6b0 : decide (0 ≤ x6_1) = true := decide_eq_true c6
     clear c6
     by_cases c7 : a0 = 0
     ·rw [if_pos c7] at H
      exact absurd H (by simp)
     ·rw [if_neg c7] at H
      have c7b0 : (a0 == 0) = false := beq_eq_false_iff_ne.mpr c7
      have c7b1 : (a0 != 0) = true := bne_iff_ne.mpr c7
      by_cases c8 : x5_1.length < 17592186044416
      ·rw [if_pos c8] at H
       have LMc8 := Aside0.mk c8
       clear c8
       obtain ⟨y1071, hy1071⟩ : ∃ y_ : List Int, y_ = (x5_1 ++ [Int.tmod (wrap64 (x6_1 * (rd l1 x6_1))) a0]) := ⟨_, rfl⟩
       replace H : (spec_l01Derive.l0 k1 a0 l1 y1071 (wrap64 (x6_1 + 1))) = some r := by first | (rw [hy1071]; with_reducible exact H) | (have H2_ := (Option.bind_some _ _).symm.trans H; rw [hy1071]; with_reducible exact H2_) | (have H2_ := (Option.bind_some _ _).symm.trans H; with_reducible exact H2_) | with_reducible exact H | (rw [hy1071]; exact H) | exact H
       have Ny1071 := Aside0.mk hy1071
       clear hy1071
       have H' := Aside0.mk H
       clear H
       have p1070 : 0 ≤ (x6_1 : Int) := of_decide_eq_true (by first | (with_reducible assumption) | assumption)
       have q1070 : x6_1 < (l1.length : Int) := of_decide_eq_true (by first | (with_reducible assumption) | assumption)
       obtain ⟨ad1070, e1070, hx1070_0⟩ := Kd.at_int HR1.out x6_1 p1070 q1070
       cases e1070
       replace hx1070_0 := (HB.out.cell (World.block_lt_of_cell? w _ hx1070_0)).trans hx1070_0
       replace p1070 := eq_true p1070
       replace q1070 := eq_true q1070
       go_wp2_with (first | ((with_reducible refine gate_builtin (b := .append) (xs := #[.tmp 14, .tmp 23]) rfl ?_); at_builtin; refine Kd.R_append (Kd.int .i64) (w0 := w) w.heap.size rfl (.tmp 14) (.tmp 23) 22 2 (.int .i64 0) 8 rfl Try.underlying22 info2 rfl (by decide) (by omega) u5 x5_1 (Int.tmod (wrap64 (x6_1 * (rd l1 x6_1))) a0) [.int .i64 (Int.tmod (wrap64 (x6_1 * (rd l1 x6_1))) a0)] (fun _ => True) (fun _ => False) rfl rfl ?aP (fun _ hk => hk.elim) ?aF ?aO ?aB ?aS ?aL ?_; (case aP => exact rfl); (case aB => exact ZB); (case aF => exact (fun _ _ => trivial)); (case aO => exact (ZR HO_5)); (case aS => exact (below_size ZB)); (case aL => have := LMc8.out; omega); intro v1072 w9 ho hb hg hat; rw [← Ny1071.out] at ho; have n0_ := Aside0.mk (hb); have n1_ := Aside0.mk (ho); clear HB; clear HO_5; have HB := n0_; have HO1073 := n1_; clear n0_ n1_; clear ho hb hg hat))
       go_roundg k1
       case measure => have := HK1.out; omega
       case rel => exact ⟨(y1071), (wrap64 (x6_1 + 1)), (by first | rfl | (simp; done) | (simp [*]; done)), H', ⟨by have := HK1.out; omega⟩, ⟨ZR HO1073⟩, ⟨ZB⟩⟩
      ·rw [if_neg c8] at H
       exact absurd H (by simp)
    ·rw [if_neg c6] at H
     exact absurd H (by simp)
   ·rw [if_neg c5] at H
    have c5b0 : decide (x6_1 < (l1.length : Int)) = false := decide_eq_false c5
    clear c5
    replace H := Option.bind_eq_some_iff.mp H
    obtain ⟨t1074, A100, H⟩ := H
    replace H : (some t1074) = some r := H
    have A10 := Aside0.mk A100
    clear A100
    obtain rfl := Option.some.inj H
    obtain ⟨Ao11, co11, eo11⟩ := Kd.R_slice HO_5.out
    subst eo11
    go_wp2_with (first | ((with_reducible refine gate_callee (f := 110) rfl ?_); refine goesL_ (some 26) rfl rfl Try.func110 (by kernel_rfl) rfl #[.slice Ao11 x5_1.length co11] rfl ZA ?_; (with_reducible refine (spec_l01Trim.calls k1 _ _ x5_1 t1074 _ ?side1 ?side2 A10.out).mono ?_); (case side1 => repeat (first | exact (Kd.R_reads' HO_5.out).2.2 | (with_reducible refine Kd.C_alloc ?_ _) | (with_reducible refine Kd.C_drewN ?_ _) | (with_reducible refine Kd.C_drew ?_))); (case side2 => exact (Kd.R_reads' HO_5.out).2.1); rintro e w12 ⟨v1075, rfl, ho0, hb⟩; refine ⟨_, rfl, ?_⟩; have n0_ := Aside0.mk (Kd.R_elder' (ZR HO_5) (Kd.R_base ho0) hb); have n1_ := Aside0.mk (Kd.R_lower (Kd.R_new' ho0 (Kd.R_lt (ZR HO_5))) (below_size ZB)); have n2_ := Aside0.mk (below_step ZB hb); clear HO_5; clear HB; have HO_5 := n0_; have HO1076 := n1_; have HB := n2_; clear n0_ n1_ n2_; (try clear hb); (try clear hb2); (try clear hk); (try clear hi); (try clear ho0)))
    go_ret
    exact ⟨_, by first | rfl | (simp [errW_none, errW_some] <;> rfl) | (simp [*, errW_none, errW_some] <;> rfl), by refine ZQ ?_; exact Kd.R_mono HO1076.out (fun _ hk => trivial), ZB⟩

/-! ### spec_ExpandDerivative: function 42 -/
def spec_ExpandDerivative.f (k : Nat) (a0_0 : Int) (l0_1 : List Int) (l0_2 : List Int) (a1 : Int) : Option (List Int × Int) := (spec_l10Code.f k a0_0 l0_1 l0_2 (([a1] : List Int))).bind fun t1081 => (if t1081 = 0 then ((spec_l03Poly.f k a0_0 l0_1 l0_2 a1).bind fun t1082 => ((spec_l01Derive.f k a0_0 t1082).bind fun t1085 => ((spec_l10Expand.f k a0_0 l0_1 l0_2 t1085).bind fun t1088 => (some (t1088, 0))))) else (some (([] : List Int), t1081)))
theorem spec_ExpandDerivative.mono : ∀ a0 a1 a2 a3 k, LeO (spec_ExpandDerivative.f k a0 a1 a2 a3) (spec_ExpandDerivative.f (k + 1) a0 a1 a2 a3) := by
 intro a0 a1 a2 a3 k
 unfold spec_ExpandDerivative.f
 repeat' first
   | (with_reducible exact spec_l01Derive.mono _ _ _)
   | (with_reducible exact spec_l03Poly.mono _ _ _ _ _)
   | (with_reducible exact spec_l10Code.mono _ _ _ _ _)
   | (with_reducible exact spec_l10Expand.mono _ _ _ _ _)
   | (with_reducible exact LeO.refl _)
   | (with_reducible exact LeO.none _)
   | (with_reducible refine LeO.ite ?_ ?_)
   | (with_reducible refine LeO.bind ?_ (fun _ => ?_))
   | exact spec_l01Derive.mono _ _ _
   | exact spec_l03Poly.mono _ _ _ _ _
   | exact spec_l10Code.mono _ _ _ _ _
   | exact spec_l10Expand.mono _ _ _ _ _
   | exact LeO.none _
   | refine LeO.ite ?_ ?_
   | refine LeO.bind ?_ (fun _ => ?_)
def spec_ExpandDerivative.T4 : Bool × List (List Nat × List Nat) := (true, [([], []), ([], []), ([1], [1]), ([], []), ([], []), ([3, 4], [3, 4]), ([2, 5, 5], [2, 5]), ([0, 6, 6], [0, 6]), ([7, 7, 0, 1, 2, 3, 4, 5, 6, 7], [7]), ([8, 0, 1, 2, 3, 4, 5, 6, 7, 8], [])])
def spec_ExpandDerivative.B4 : List Nat := [0, 0, 2, 0, 0, 24, 62, 127, 255, 511]
theorem spec_ExpandDerivative.tab4 : rtab .any (opsOf Try.f42 4) = spec_ExpandDerivative.T4 := by kernel_rfl
theorem spec_ExpandDerivative.bits4 : waitsOk spec_ExpandDerivative.T4.2 spec_ExpandDerivative.B4 = true := by kernel_rfl
set_option maxHeartbeats 8000000 in
set_option maxRecDepth 100000 in
theorem spec_ExpandDerivative.calls (k : Nat) (a0_0 : Int) (A0_1 : Option Addr) (c0_1 : Nat) (l0_1 : List Int) (A0_2 : Option Addr) (c0_2 : Nat) (l0_2 : List Int) (a1 : Int) (r1 : List Int) (r2 : Int) (w : World) (hr0_1 : Kd.C (Kd.int .i64) w A0_1 l0_1.length l0_1) (hc0_1 : l0_1.length ≤ c0_1) (hr0_2 : Kd.C (Kd.int .i64) w A0_2 l0_2.length l0_2) (hc0_2 : l0_2.length ≤ c0_2) (h : spec_ExpandDerivative.f k a0_0 l0_1 l0_2 a1 = some (r1, r2)) :
  Calls Try.prog 42 #[.agg #[.int .i64 a0_0, .slice A0_1 l0_1.length c0_1, .slice A0_2 l0_2.length c0_2], .int .i64 a1] w fun e w' => ∃ v0_ : Value, e = .returned (.tuple #[v0_, .int .i64 r2]) ∧ Kd.R (Kd.int .i64) 2 w' w.heap.size (fun _ => True) v0_ r1 ∧ Below w.heap.size w w' := by
 have hu29 := Try.underlying29
 have HR0_1 := Aside0.mk hr0_1
 have HC0_1 := Aside0.mk hc0_1
 clear hr0_1 hc0_1
 have HR0_2 := Aside0.mk hr0_2
 have HC0_2 := Aside0.mk hc0_2
 clear hr0_2 hc0_2
 have HB := Aside0.mk (Below.refl w.heap.size w)
 have H : ((spec_l10Code.f k a0_0 l0_1 l0_2 (([a1] : List Int))).bind fun t1081 => (if t1081 = 0 then ((spec_l03Poly.f k a0_0 l0_1 l0_2 a1).bind fun t1082 => ((spec_l01Derive.f k a0_0 t1082).bind fun t1085 => ((spec_l10Expand.f k a0_0 l0_1 l0_2 t1085).bind fun t1088 => (some (t1088, 0))))) else (some (([] : List Int), t1081)))) = some (r1, r2) := h
 clear h
 obtain ⟨y1078, hy1078⟩ : ∃ y_ : List Int, y_ = (([a1] : List Int)) := ⟨_, rfl⟩
 replace H : ((spec_l10Code.f k a0_0 l0_1 l0_2 y1078).bind fun t1081 => (if t1081 = 0 then ((spec_l03Poly.f k a0_0 l0_1 l0_2 a1).bind fun t1082 => ((spec_l01Derive.f k a0_0 t1082).bind fun t1085 => ((spec_l10Expand.f k a0_0 l0_1 l0_2 t1085).bind fun t1088 => (some (t1088, 0))))) else (some (([] : List Int), t1081)))) = some (r1, r2) := by first | (rw [hy1078]; with_reducible exact H) | (have H2_ := (Option.bind_some _ _).symm.trans H; rw [hy1078]; with_reducible exact H2_) | (have H2_ := (Option.bind_some _ _).symm.trans H; with_reducible exact H2_) | with_reducible exact H | (rw [hy1078]; exact H) | exact H
 have Ny1078 := Aside0.mk hy1078
 clear hy1078
 replace H := Option.bind_eq_some_iff.mp H
 obtain ⟨t1081, A30, H⟩ := H
 replace H : (if t1081 = 0 then ((spec_l03Poly.f k a0_0 l0_1 l0_2 a1).bind fun t1082 => ((spec_l01Derive.f k a0_0 t1082).bind fun t1085 => ((spec_l10Expand.f k a0_0 l0_1 l0_2 t1085).bind fun t1088 => (some (t1088, 0))))) else (some (([] : List Int), t1081))) = some (r1, r2) := H
 have A3 := Aside0.mk A30
 clear A30
 by_cases c4 : t1081 = 0
 ·rw [if_pos c4] at H
  have c4b0 : (t1081 == 0) = true := beq_iff_eq.mpr c4
  have c4b1 : (t1081 != 0) = false := bne_eq_false_iff_eq.mpr c4
  clear c4
  replace H := Option.bind_eq_some_iff.mp H
  obtain ⟨t1082, A50, H⟩ := H
  replace H : ((spec_l01Derive.f k a0_0 t1082).bind fun t1085 => ((spec_l10Expand.f k a0_0 l0_1 l0_2 t1085).bind fun t1088 => (some (t1088, 0)))) = some (r1, r2) := H
  have A5 := Aside0.mk A50
  clear A50
  replace H := Option.bind_eq_some_iff.mp H
  obtain ⟨t1085, A60, H⟩ := H
  replace H : ((spec_l10Expand.f k a0_0 l0_1 l0_2 t1085).bind fun t1088 => (some (t1088, 0))) = some (r1, r2) := H
  have A6 := Aside0.mk A60
  clear A60
  replace H := Option.bind_eq_some_iff.mp H
  obtain ⟨t1088, A70, H⟩ := H
  replace H : (some (t1088, 0)) = some (r1, r2) := H
  have A7 := Aside0.mk A70
  clear A70
  simp only [Option.some.injEq, Prod.mk.injEq] at H
  obtain ⟨rfl, rfl⟩ := H
  go_enter Try.func42, Try.ntmps42
  try go_wp2_with (first | ((with_reducible refine gate_dst (N := 2) rfl ?_); refine box_event ?hg (N := 2) ?hd (cs := #[.int .i64 a0_0, .slice A0_1 l0_1.length c0_1, .slice A0_2 l0_2.length c0_2]) (t := 29) ?hr ?_; (case hd => rfl); (case hg => rfl); (case hr => first | (go_simp; done) | (go_simp; rfl)); intro gb1077 hg w8 hbox hb; have n0_ := Aside0.mk (below_step ZB hb); have n1_ := Aside0.mk (hbox); have n2_ := Aside0.mk ((ZG hg : w.heap.size ≤ gb1077)); have n3_ := Aside0.mk ((ZG hg : w.heap.size ≤ gb1077)); clear HB; have HB := n0_; have BK1077 := n1_; have GW1077 := n2_; have GE1077 := n3_; clear n0_ n1_ n2_ n3_; clear hb hbox hg; obtain ⟨hcz9_0, hcz9_1, hcz9_2, hfz9_0, hfz9_1, hfz9_2⟩ := ZD3 BK1077) | ((with_reducible refine gate_dst (N := 9) rfl ?_); refine Kd.R_lit (Kd.int .i64) _ 2 ?hg (N := 9) ?hd (xs := ([a1] : List Int)) (inner := [.int .i64 a1]) (ok := fun _ => True) (okp := fun _ => True) ?hr ?hp (fun _ hk => hk) trivial (Below.refl _ _) (Nat.le_refl _) (by simp) ?_; (case hd => rfl); (case hg => rfl); (case hr => first | (go_simp; done) | (go_simp; rfl)); (case hp => exact (Reps.one (show Kd.M (Kd.int .i64) _ _ _ a1 [.int .i64 a1] from rfl) (Reps.none _ _))); intro v1079 w10 ho11 hb hg_ hnew_; clear hg_ hnew_; (first | rw [← Ny1078.out] at ho11 | (simp only [Int.reduceToNat] at ho11; rw [← Ny1078.out] at ho11)); have n0_ := Aside0.mk (Kd.R_lower ho11 (below_size ZB)); have n1_ := ZL BK1077 hb; have n2_ := Aside0.mk (below_step ZB hb); clear BK1077; clear HB; have HO1080 := n0_; have BK1077 := n1_; have HB := n2_; clear n0_ n1_ n2_; clear hb ho11; obtain ⟨Ao12, co12, eo12⟩ := Kd.R_slice HO1080.out; subst eo12) | ((with_reducible refine gate_callee (f := 74) rfl ?_); refine goesL_ (some 10) rfl rfl Try.func74 (by kernel_rfl) rfl #[.agg #[.int .i64 a0_0, .slice A0_1 l0_1.length c0_1, .slice A0_2 l0_2.length c0_2], .slice Ao12 y1078.length co12] rfl ZA ?_; (with_reducible refine (spec_l10Code.calls k a0_0 _ _ l0_1 _ _ l0_2 _ _ y1078 t1081 _ ?side1 ?side2 ?side3 ?side4 ?side5 ?side6 A3.out).mono ?_); (case side1 => exact ZC HR0_1); (case side2 => exact HC0_1.out); (case side3 => exact ZC HR0_2); (case side4 => exact HC0_2.out); (case side5 => repeat (first | exact (Kd.R_reads' HO1080.out).2.2 | (with_reducible refine Kd.C_alloc ?_ _) | (with_reducible refine Kd.C_drewN ?_ _) | (with_reducible refine Kd.C_drew ?_))); (case side6 => exact (Kd.R_reads' HO1080.out).2.1); rintro e w13 ⟨rfl, hb⟩; refine ⟨_, rfl, ?_⟩; have n0_ := Aside0.mk (Kd.R_below (ZR HO1080) hb); have n1_ := ZL BK1077 hb; have n2_ := Aside0.mk (below_step ZB hb); clear HO1080; clear BK1077; clear HB; have HO1080 := n0_; have BK1077 := n1_; have HB := n2_; clear n0_ n1_ n2_; (try clear hb); (try clear hb2); (try clear hk); (try clear hi)))
  have n0_ := Aside0.mk (Kd.R_drew HO1080.out)
  have n1_ := Aside0.mk (blk_drew BK1077.out)
  have n2_ := Aside0.mk (below_drew1 HB.out)
  clear HO1080
  clear BK1077
  clear HB
  have HO1080 := n0_
  have BK1077 := n1_
  have HB := n2_
  clear n0_ n1_ n2_
  refine start_ (n := 10) (S := fun w' => w'.cell? ⟨gb1077, 0, none⟩ = some (.int .i64 a0_0) ∧ w'.cell? ⟨gb1077, 1, none⟩ = some (.slice A0_1 l0_1.length c0_1) ∧ w'.cell? ⟨gb1077, 2, none⟩ = some (.slice A0_2 l0_2.length c0_2)) (ds := []) #[false, false, false, false, false, false, false, false, false, false] (by kernel_rfl) rfl rfl ⟨(blk_cell BK1077.out 0).trans rfl, (blk_cell BK1077.out 1).trans rfl, (blk_cell BK1077.out 2).trans rfl⟩ (fun hHeld => ?_); refine with_tabW spec_ExpandDerivative.tab4 spec_ExpandDerivative.bits4 (fun HT_ HW_ => ?_)
  generalize w13.drew = w14 at HO1080 BK1077 HB hHeld ⊢
  refine Zpt 1 (some 15) (h := ?_)
  refine Zpt 4 (some 18) (h := ?_)
  refine ZtW3 0 (some 14) hHeld (h := ?_)
  refine ZtW3 2 (some 16) hHeld (h := ?_)
  refine ZtW3 3 (some 17) hHeld (h := ?_)
  refine one_ (i := 5) (N := some 19) #[true, true, true, true, true, true, false, false, false, false] rfl rfl (one_of HT_.out (by kernel_rfl)) (by decide) (fun K hK => ?_)
  refine goes_ Try.func75 (by kernel_rfl) rfl #[.agg #[.int .i64 a0_0, .slice A0_1 l0_1.length c0_1, .slice A0_2 l0_2.length c0_2], .int .i64 a1] (by rfl) rfl rfl ZA ?_
  with_reducible refine (spec_l03Poly.calls k a0_0 _ _ l0_1 _ _ l0_2 a1 t1082 _ ?side1 ?side2 ?side3 ?side4 A5.out).mono ?_
  (case side1 => exact ZC HR0_1)
  (case side2 => exact HC0_1.out)
  (case side3 => exact ZC HR0_2)
  (case side4 => exact HC0_2.out)
  rintro e w15 ⟨v1083, rfl, ho0, hb⟩
  refine ⟨_, rfl, ?_⟩
  have n0_ := Aside0.mk (Kd.R_elder' (ZR HO1080) (Kd.R_base ho0) hb)
  have n1_ := Aside0.mk (Kd.R_lower (Kd.R_new' ho0 (Kd.R_lt (ZR HO1080))) (below_size ZB))
  have n2_ := ZL BK1077 hb
  have n3_ := Aside0.mk (below_step ZB hb)
  clear HO1080
  clear BK1077
  clear HB
  have HO1080 := n0_
  have HO1084 := n1_
  have BK1077 := n2_
  have HB := n3_
  clear n0_ n1_ n2_ n3_
  (try clear hb)
  (try clear hb2)
  (try clear hk)
  (try clear hi)
  (try clear ho0)
  obtain ⟨Ao16, co16, eo16⟩ := Kd.R_slice HO1084.out
  (first | subst eo16 | (injection eo16 with f1_ f2_ f3_; have f4_ := f1_.symm; have f5_ := f3_.symm; clear f1_ f2_ f3_; subst f4_; subst f5_))
  refine hK.out _ _ ⟨(blk_cell BK1077.out 0).trans rfl, (blk_cell BK1077.out 1).trans rfl, (blk_cell BK1077.out 2).trans rfl⟩ (fun hHeld => ?_)
  clear hK K
  refine norm_ (a' := ?_) ?_ ?_
  rotate_left
  ·show Act.put _ (some 19) _ = _
   simp only [Act.put, List.setIfInBounds_toArray, List.set_cons_zero, List.set_cons_succ, i64_w, i32_w]
   rfl
  refine one_ (i := 6) (N := some 20) #[true, true, true, true, true, true, true, false, false, false] rfl rfl (one_of HT_.out (by kernel_rfl)) (by decide) (fun K hK => ?_)
  refine goes_ Try.func86 (by kernel_rfl) rfl #[.int .i64 a0_0, .slice Ao16 t1082.length co16] (by rfl) rfl rfl ZA ?_
  with_reducible refine (spec_l01Derive.calls k a0_0 _ _ t1082 t1085 _ ?side1 ?side2 A6.out).mono ?_
  (case side1 => repeat (first | exact (Kd.R_reads' HO1084.out).2.2 | (with_reducible refine Kd.C_alloc ?_ _) | (with_reducible refine Kd.C_drewN ?_ _) | (with_reducible refine Kd.C_drew ?_)))
  (case side2 => exact (Kd.R_reads' HO1084.out).2.1)
  rintro e w17 ⟨v1086, rfl, ho0, hb⟩
  refine ⟨_, rfl, ?_⟩
  have n0_ := Aside0.mk (Kd.R_elder' (ZR HO1080) (Kd.R_base ho0) hb)
  have n1_ := Aside0.mk (Kd.R_elder' (ZR HO1084) (Kd.R_base ho0) hb)
  have n2_ := Aside0.mk (Kd.R_lower (Kd.R_new' (Kd.R_new' ho0 (Kd.R_lt (ZR HO1080))) (Kd.R_lt (ZR HO1084))) (below_size ZB))
  have n3_ := ZL BK1077 hb
  have n4_ := Aside0.mk (below_step ZB hb)
  clear HO1080
  clear HO1084
  clear BK1077
  clear HB
  have HO1080 := n0_
  have HO1084 := n1_
  have HO1087 := n2_
  have BK1077 := n3_
  have HB := n4_
  clear n0_ n1_ n2_ n3_ n4_
  (try clear hb)
  (try clear hb2)
  (try clear hk)
  (try clear hi)
  (try clear ho0)
  obtain ⟨Ao18, co18, eo18⟩ := Kd.R_slice HO1087.out
  (first | subst eo18 | (injection eo18 with f1_ f2_ f3_; have f4_ := f1_.symm; have f5_ := f3_.symm; clear f1_ f2_ f3_; subst f4_; subst f5_))
  refine hK.out _ _ ⟨(blk_cell BK1077.out 0).trans rfl, (blk_cell BK1077.out 1).trans rfl, (blk_cell BK1077.out 2).trans rfl⟩ (fun hHeld => ?_)
  clear hK K
  refine norm_ (a' := ?_) ?_ ?_
  rotate_left
  ·show Act.put _ (some 20) _ = _
   simp only [Act.put, List.setIfInBounds_toArray, List.set_cons_zero, List.set_cons_succ, i64_w, i32_w]
   rfl
  refine one_ (i := 7) (N := some 21) #[true, true, true, true, true, true, true, true, false, false] rfl rfl (one_of HT_.out (by kernel_rfl)) (by decide) (fun K hK => ?_)
  refine goes_ Try.func68 (by kernel_rfl) rfl #[.agg #[.int .i64 a0_0, .slice A0_1 l0_1.length c0_1, .slice A0_2 l0_2.length c0_2], .slice Ao18 t1085.length co18] (by rfl) rfl rfl ZA ?_
  with_reducible refine (spec_l10Expand.calls k a0_0 _ _ l0_1 _ _ l0_2 (fun k_ => some k_ = (.slice Ao18 t1085.length co18 : Value).ownBlock) _ _ t1085 t1088 _ ?side1 ?side2 ?side3 ?side4 ?side5 A7.out).mono ?_
  (case side1 => exact ZC HR0_1)
  (case side2 => exact HC0_1.out)
  (case side3 => exact ZC HR0_2)
  (case side4 => exact HC0_2.out)
  (case side5 => exact Kd.R_V (Kd.R_tight rfl (Kd.R_types (HO1087.out) BK1077.out (by decide))))
  rintro e w19 ⟨v1089, rfl, ho0, hb⟩
  refine ⟨_, rfl, ?_⟩
  have n0_ := Aside0.mk (Kd.R_elder' (ZR HO1080) (Kd.R_base ho0) hb)
  have n1_ := Aside0.mk (Kd.R_elder' (ZR HO1084) (Kd.R_base ho0) hb)
  have n2_ := Aside0.mk (Kd.R_elder' (ZR HO1087) (Kd.R_base ho0) hb)
  have n3_ := Aside0.mk (Kd.R_lower (Kd.R_new' (Kd.R_new' (Kd.R_new' (Kd.R_mono (ok' := fun k_ => True) ho0 (fun _ hk_ => trivial)) (Kd.R_lt (ZR HO1080))) (Kd.R_lt (ZR HO1084))) (Kd.R_lt (ZR HO1087))) (below_size ZB))
  have n4_ := ZL BK1077 hb
  have n5_ := Aside0.mk (below_step ZB hb)
  clear HO1080
  clear HO1084
  clear HO1087
  clear BK1077
  clear HB
  have HO1080 := n0_
  have HO1084 := n1_
  have HO1087 := n2_
  have HO1090 := n3_
  have BK1077 := n4_
  have HB := n5_
  clear n0_ n1_ n2_ n3_ n4_ n5_
  (try clear hb)
  (try clear hb2)
  (try clear hk)
  (try clear hi)
  (try clear ho0)
  refine hK.out _ _ ⟨(blk_cell BK1077.out 0).trans rfl, (blk_cell BK1077.out 1).trans rfl, (blk_cell BK1077.out 2).trans rfl⟩ (fun hHeld => ?_)
  clear hK K
  refine norm_ (a' := ?_) ?_ ?_
  rotate_left
  ·show Act.put _ (some 21) _ = _
   simp only [Act.put, List.setIfInBounds_toArray, List.set_cons_zero, List.set_cons_succ, i64_w, i32_w]
   rfl
  refine Zpt 8 (some 4) (h := ?_)
  refine Zpt 9 (some 5) (h := ?_)
  refine done_ (done_of HT_.out (by kernel_rfl)) ?_
  try go_wp2
  go_ret2
  exact ⟨_, by first | rfl | (simp [errW_none, errW_some] <;> rfl) | (simp [*, errW_none, errW_some] <;> rfl), by refine ZQ ?_; exact Kd.R_mono HO1090.out (fun _ hk => trivial), ZB⟩
 ·rw [if_neg c4] at H
  have c4b0 : (t1081 == 0) = false := beq_eq_false_iff_ne.mpr c4
  have c4b1 : (t1081 != 0) = true := bne_iff_ne.mpr c4
  simp only [Option.some.injEq, Prod.mk.injEq] at H
  obtain ⟨rfl, rfl⟩ := H
  go_enter Try.func42, Try.ntmps42
  go_wp2_with (first | ((with_reducible refine gate_dst (N := 2) rfl ?_); refine box_event ?hg (N := 2) ?hd (cs := #[.int .i64 a0_0, .slice A0_1 l0_1.length c0_1, .slice A0_2 l0_2.length c0_2]) (t := 29) ?hr ?_; (case hd => rfl); (case hg => rfl); (case hr => first | (go_simp; done) | (go_simp; rfl)); intro gb1077 hg w20 hbox hb; have n0_ := Aside0.mk (below_step ZB hb); have n1_ := Aside0.mk (hbox); have n2_ := Aside0.mk ((ZG hg : w.heap.size ≤ gb1077)); have n3_ := Aside0.mk ((ZG hg : w.heap.size ≤ gb1077)); clear HB; have HB := n0_; have BK1077 := n1_; have GW1077 := n2_; have GE1077 := n3_; clear n0_ n1_ n2_ n3_; clear hb hbox hg; obtain ⟨hcz21_0, hcz21_1, hcz21_2, hfz21_0, hfz21_1, hfz21_2⟩ := ZD3 BK1077) | ((with_reducible refine gate_dst (N := 9) rfl ?_); refine Kd.R_lit (Kd.int .i64) _ 2 ?hg (N := 9) ?hd (xs := ([a1] : List Int)) (inner := [.int .i64 a1]) (ok := fun _ => True) (okp := fun _ => True) ?hr ?hp (fun _ hk => hk) trivial (Below.refl _ _) (Nat.le_refl _) (by simp) ?_; (case hd => rfl); (case hg => rfl); (case hr => first | (go_simp; done) | (go_simp; rfl)); (case hp => exact (Reps.one (show Kd.M (Kd.int .i64) _ _ _ a1 [.int .i64 a1] from rfl) (Reps.none _ _))); intro v1079 w22 ho23 hb hg_ hnew_; clear hg_ hnew_; (first | rw [← Ny1078.out] at ho23 | (simp only [Int.reduceToNat] at ho23; rw [← Ny1078.out] at ho23)); have n0_ := Aside0.mk (Kd.R_lower ho23 (below_size ZB)); have n1_ := ZL BK1077 hb; have n2_ := Aside0.mk (below_step ZB hb); clear BK1077; clear HB; have HO1080 := n0_; have BK1077 := n1_; have HB := n2_; clear n0_ n1_ n2_; clear hb ho23; obtain ⟨Ao24, co24, eo24⟩ := Kd.R_slice HO1080.out; subst eo24) | ((with_reducible refine gate_callee (f := 74) rfl ?_); refine goesL_ (some 10) rfl rfl Try.func74 (by kernel_rfl) rfl #[.agg #[.int .i64 a0_0, .slice A0_1 l0_1.length c0_1, .slice A0_2 l0_2.length c0_2], .slice Ao24 y1078.length co24] rfl ZA ?_; (with_reducible refine (spec_l10Code.calls k a0_0 _ _ l0_1 _ _ l0_2 _ _ y1078 t1081 _ ?side1 ?side2 ?side3 ?side4 ?side5 ?side6 A3.out).mono ?_); (case side1 => exact ZC HR0_1); (case side2 => exact HC0_1.out); (case side3 => exact ZC HR0_2); (case side4 => exact HC0_2.out); (case side5 => repeat (first | exact (Kd.R_reads' HO1080.out).2.2 | (with_reducible refine Kd.C_alloc ?_ _) | (with_reducible refine Kd.C_drewN ?_ _) | (with_reducible refine Kd.C_drew ?_))); (case side6 => exact (Kd.R_reads' HO1080.out).2.1); rintro e w25 ⟨rfl, hb⟩; refine ⟨_, rfl, ?_⟩; have n0_ := Aside0.mk (Kd.R_below (ZR HO1080) hb); have n1_ := ZL BK1077 hb; have n2_ := Aside0.mk (below_step ZB hb); clear HO1080; clear BK1077; clear HB; have HO1080 := n0_; have BK1077 := n1_; have HB := n2_; clear n0_ n1_ n2_; (try clear hb); (try clear hb2); (try clear hk); (try clear hi)))
  go_ret2
  exact ⟨_, by first | rfl | (simp [errW_none, errW_some] <;> rfl) | (simp [*, errW_none, errW_some] <;> rfl), by first | exact Kd.R_nil _ _ _ _ _ | exact Kd.N_nil _ _ _ _ _ | exact Kd.V_nil _ _ _ _ _ | exact Kd.Q_nil _ _ _ _ _ | exact Kd.S_nil _ _ _ _ _, ZB⟩

end Go.Proofs.Ytaclapojgdekpaa.X
