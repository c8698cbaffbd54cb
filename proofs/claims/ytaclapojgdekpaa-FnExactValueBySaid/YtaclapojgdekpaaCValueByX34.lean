/- Contracts of functions that the law reaches, printed by a program of this session; Lean checks them. -/
import Derived.Test.YtaclapojgdekpaaCValueByX0
import Derived.Test.YtaclapojgdekpaaCValueByX1
import Derived.Test.YtaclapojgdekpaaCValueByX31
import Derived.Test.YtaclapojgdekpaaCValueByX7
import Derived.Test.YtaclapojgdekpaaCValueByXZ
import Derived.RangeFuncBox
import Derived.RangeFuncCalls
import Derived.RangeFuncLeaves
import Derived.Shelf.Abstract
import Derived.OwnWalkIn
import Derived.TacticsInMore
import Derived.LoopNIn
import Derived.LoopIn
namespace Go.Proofs.Ytaclapojgdekpaa.X
open Go.RowKit Go.Shelf Go.Proofs.YtaclapojgdekpaaW.PrintWords Go.Proofs.YtaclapojgdekpaaW.PrintLast Go.Proofs.YtaclapojgdekpaaW.PrintMore
attribute [local go_sem] max2_int min2_int max_two min_two max_three min_three max_four min_four   -- for this text's walks alone
set_option linter.unusedVariables false
set_option linter.unusedSimpArgs false

/-! ### spec_l01At: function 84 -/
def spec_l01At.l0 : Nat → Int → List Int → Int → Int → Int → Option (Int)
 | 0, _, _, _, _, _ => none
 | k + 1, x0, x1, x2, x7, x8 => if x8 ≥ 0 then (if 0 ≤ x8 then (if x8 < (x1.length : Int) then (if x0 = 0 then (none) else (spec_l01At.l0 k x0 x1 x2 (Int.tmod (wrap64 ((wrap64 (x7 * x2)) + (rd x1 x8))) x0) (wrap64 (x8 - 1)))) else (none)) else (none)) else (some x7)
def spec_l01At.f (k : Nat) (a0 : Int) (l1 : List Int) (a2 : Int) : Option (Int) := spec_l01At.l0 k a0 l1 a2 0 (wrap64 ((l1.length : Int) - 1))
theorem spec_l01At.mono_l : ∀ k, (∀ y0 y1 y2 y3 y4, LeO (spec_l01At.l0 k y0 y1 y2 y3 y4) (spec_l01At.l0 (k + 1) y0 y1 y2 y3 y4))
 | 0 => fun _ _ _ _ _ r h => by simp [spec_l01At.l0] at h
 | k + 1 => by
  have ih0 := spec_l01At.mono_l k
  ·intro y0 y1 y2 y3 y4
   unfold spec_l01At.l0
   repeat' first
   | (with_reducible exact ih0 _ _ _ _ _)
   | (with_reducible exact LeO.refl _)
   | (with_reducible exact LeO.none _)
   | (with_reducible refine LeO.ite ?_ ?_)
   | (with_reducible refine LeO.bind ?_ (fun _ => ?_))
   | exact ih0 _ _ _ _ _
   | exact LeO.none _
   | refine LeO.ite ?_ ?_
   | refine LeO.bind ?_ (fun _ => ?_)
theorem spec_l01At.mono : ∀ a0 a1 a2 k, LeO (spec_l01At.f k a0 a1 a2) (spec_l01At.f (k + 1) a0 a1 a2) := by
 intro a0 a1 a2 k
 have ih0 := spec_l01At.mono_l k
 unfold spec_l01At.f
 repeat' first
   | (with_reducible exact ih0 _ _ _ _ _)
   | (with_reducible exact LeO.refl _)
   | (with_reducible exact LeO.none _)
   | (with_reducible refine LeO.ite ?_ ?_)
   | (with_reducible refine LeO.bind ?_ (fun _ => ?_))
   | exact ih0 _ _ _ _ _
   | exact LeO.none _
   | refine LeO.ite ?_ ?_
   | refine LeO.bind ?_ (fun _ => ?_)
set_option maxHeartbeats 8000000 in
set_option maxRecDepth 100000 in
theorem spec_l01At.calls (k : Nat) (a0 : Int) (A1 : Option Addr) (c1 : Nat) (l1 : List Int) (a2 : Int) (r : Int) (w : World) (hr1 : Kd.C (Kd.int .i64) w A1 l1.length l1) (hc1 : l1.length ≤ c1) (h : spec_l01At.f k a0 l1 a2 = some r) :
  Calls Try.prog 84 #[.int .i64 a0, .slice A1 l1.length c1, .int .i64 a2] w fun e w' => e = .returned (.int .i64 r) ∧ Drawn0 w w' := by
 have HR1 := Aside0.mk hr1
 have HC1 := Aside0.mk hc1
 clear hr1 hc1
 have H : (spec_l01At.l0 k a0 l1 a2 0 (wrap64 ((l1.length : Int) - 1))) = some r := h
 clear h
 have H' := Aside0.mk H
 clear H
 go_enter Try.func84, Try.ntmps84
 go_wp2
 go_loopg [7, 8] k (fun kq v7 v8 w' => ∃ (x7_1 : Int) (x8_1 : Int), v7 = .int .i64 x7_1 ∧ v8 = .int .i64 x8_1 ∧ Aside0 (spec_l01At.l0 kq a0 l1 a2 x7_1 x8_1 = some r) ∧ Aside0 (kq ≤ k) ∧ Drawn0 w w')
 case atStart => exact ⟨(0), (wrap64 ((l1.length : Int) - 1)), (by first | rfl | (simp; done) | (simp [*]; done)), (by first | rfl | (simp; done) | (simp [*]; done)), H', ⟨Nat.le_refl _⟩, by repeat (first | exact Drawn0.refl _ | apply Drawn0.step)⟩
 case round =>
  clear H'
  try clear c1
  try clear p2
  obtain ⟨x7_1, x8_1, rfl, rfl, HA, HK1, ⟨m1, rfl⟩⟩ := hrel
  cases gk with
  | zero => exact absurd HA.out (by simp [spec_l01At.l0])
  | succ k1 =>
   have H := HA.out
   clear HA
   simp only [spec_l01At.l0] at H
   by_cases c4 : x8_1 ≥ 0
   ·rw [if_pos c4] at H
    have c4b0 : decide (0 ≤ x8_1) = true := decide_eq_true c4
    clear c4
    by_cases c5 : 0 ≤ x8_1
    ·rw [if_pos c5] at H
     have c5b0 : decide (0 ≤ x8_1) = true := decide_eq_true c5
     clear c5
     by_cases c6 : x8_1 < (l1.length : Int)
     ·rw [if_pos c6] at H
      have c6b0 : decide (x8_1 < (l1.length : Int)) = true := decide_eq_true c6
      clear c6
      by_cases c7 : a0 = 0
      ·rw [if_pos c7] at H
       exact absurd H (by simp)
      ·rw [if_neg c7] at H
       have c7b0 : (a0 == 0) = false := beq_eq_false_iff_ne.mpr c7
       have c7b1 : (a0 != 0) = true := bne_iff_ne.mpr c7
       have H' := Aside0.mk H
       clear H
       have p1089 : 0 ≤ (x8_1 : Int) := of_decide_eq_true (by first | (with_reducible assumption) | assumption)
       have q1089 : x8_1 < (l1.length : Int) := of_decide_eq_true (by first | (with_reducible assumption) | assumption)
       obtain ⟨ad1089, e1089, hx1089_0⟩ := Kd.at_int HR1.out x8_1 p1089 q1089
       cases e1089
       replace p1089 := eq_true p1089
       replace q1089 := eq_true q1089
       go_wp2
       go_roundg k1
       case measure => have := HK1.out; omega
       case rel => exact ⟨(Int.tmod (wrap64 ((wrap64 (x7_1 * a2)) + (rd l1 x8_1))) a0), (wrap64 (x8_1 - 1)), (by first | rfl | (simp; done) | (simp [*]; done)), (by first | rfl | (simp; done) | (simp [*]; done)), H', ⟨by have := HK1.out; omega⟩, by repeat (first | exact Drawn0.refl _ | apply Drawn0.step)⟩
     ·rw [if_neg c6] at H
      exact absurd H (by simp)
    ·rw [if_neg c5] at H
     exact absurd H (by simp)
   ·rw [if_neg c4] at H
    have c4b0 : decide (0 ≤ x8_1) = false := decide_eq_false c4
    clear c4
    obtain rfl := Option.some.inj H
    go_wp2
    go_ret
    exact ⟨by first | rfl | (simp; done) | (simp [*]; done), by repeat (first | exact Drawn0.refl _ | apply Drawn0.step)⟩

/-! ### spec_ValueBy: function 40 -/
mutual
def spec_ValueBy.j0 : Nat → List Int → Int → Int → Bool → Int → List Int → List Int → Option (Int × Int)
 | 0, _, _, _, _, _, _, _ => none
 | k + 1, x1, x2, x8, x21, x1091000, x1091001, x1091002 => if x21 = true then (spec_ValueBy.j1 k x1 x2 2 x1091000 x1091001 x1091002) else (spec_ValueBy.j1 k x1 x2 x8 x1091000 x1091001 x1091002)
def spec_ValueBy.j1 : Nat → List Int → Int → Int → Int → List Int → List Int → Option (Int × Int)
 | 0, _, _, _, _, _, _ => none
 | k + 1, x1, x2, x8, x1091000, x1091001, x1091002 => if x8 = 0 then ((spec_l10Sum.f k x1091000 x1091001 x1091002 x1).bind fun t1093 => ((spec_l01At.f k x1091000 t1093 x2).bind fun t1096 => (some (t1096, 0)))) else (some (0, x8))
end
def spec_ValueBy.f (k : Nat) (a0_0 : Int) (l0_1 : List Int) (l0_2 : List Int) (l1 : List Int) (a2 : Int) : Option (Int × Int) := (spec_l10List.f k a0_0 l0_1 l0_2 l1 1).bind fun t1091 => (if t1091 = 0 then ((spec_l01In.f a2 0 (wrap64 (a0_0 - 1))).bind fun t1092 => (spec_ValueBy.j0 k l1 a2 t1091 (!t1092) a0_0 l0_1 l0_2)) else (spec_ValueBy.j0 k l1 a2 t1091 false a0_0 l0_1 l0_2))
theorem spec_ValueBy.mono_l : ∀ k, (∀ y0 y1 y2 y3 y4 y5 y6, LeO (spec_ValueBy.j0 k y0 y1 y2 y3 y4 y5 y6) (spec_ValueBy.j0 (k + 1) y0 y1 y2 y3 y4 y5 y6)) ∧ (∀ y0 y1 y2 y3 y4 y5, LeO (spec_ValueBy.j1 k y0 y1 y2 y3 y4 y5) (spec_ValueBy.j1 (k + 1) y0 y1 y2 y3 y4 y5))
 | 0 => ⟨fun _ _ _ _ _ _ _ r h => by simp [spec_ValueBy.j0] at h, fun _ _ _ _ _ _ r h => by simp [spec_ValueBy.j1] at h⟩
 | k + 1 => by
  obtain ⟨ih0, ih1⟩ := spec_ValueBy.mono_l k
  refine ⟨?_, ?_⟩
  ·intro y0 y1 y2 y3 y4 y5 y6
   unfold spec_ValueBy.j0
   repeat' first
   | (with_reducible exact ih0 _ _ _ _ _ _ _)
   | (with_reducible exact ih1 _ _ _ _ _ _)
   | (with_reducible exact spec_l01At.mono _ _ _ _)
   | (with_reducible exact spec_l10List.mono _ _ _ _ _ _)
   | (with_reducible exact spec_l10Sum.mono _ _ _ _ _)
   | (with_reducible exact LeO.refl _)
   | (with_reducible exact LeO.none _)
   | (with_reducible refine LeO.ite ?_ ?_)
   | (with_reducible refine LeO.bind ?_ (fun _ => ?_))
   | exact ih0 _ _ _ _ _ _ _
   | exact ih1 _ _ _ _ _ _
   | exact spec_l01At.mono _ _ _ _
   | exact spec_l10List.mono _ _ _ _ _ _
   | exact spec_l10Sum.mono _ _ _ _ _
   | exact LeO.none _
   | refine LeO.ite ?_ ?_
   | refine LeO.bind ?_ (fun _ => ?_)
  ·intro y0 y1 y2 y3 y4 y5
   unfold spec_ValueBy.j1
   repeat' first
   | (with_reducible exact ih0 _ _ _ _ _ _ _)
   | (with_reducible exact ih1 _ _ _ _ _ _)
   | (with_reducible exact spec_l01At.mono _ _ _ _)
   | (with_reducible exact spec_l10List.mono _ _ _ _ _ _)
   | (with_reducible exact spec_l10Sum.mono _ _ _ _ _)
   | (with_reducible exact LeO.refl _)
   | (with_reducible exact LeO.none _)
   | (with_reducible refine LeO.ite ?_ ?_)
   | (with_reducible refine LeO.bind ?_ (fun _ => ?_))
   | exact ih0 _ _ _ _ _ _ _
   | exact ih1 _ _ _ _ _ _
   | exact spec_l01At.mono _ _ _ _
   | exact spec_l10List.mono _ _ _ _ _ _
   | exact spec_l10Sum.mono _ _ _ _ _
   | exact LeO.none _
   | refine LeO.ite ?_ ?_
   | refine LeO.bind ?_ (fun _ => ?_)
theorem spec_ValueBy.mono : ∀ a0 a1 a2 a3 a4 k, LeO (spec_ValueBy.f k a0 a1 a2 a3 a4) (spec_ValueBy.f (k + 1) a0 a1 a2 a3 a4) := by
 intro a0 a1 a2 a3 a4 k
 obtain ⟨ih0, ih1⟩ := spec_ValueBy.mono_l k
 unfold spec_ValueBy.f
 repeat' first
   | (with_reducible exact ih0 _ _ _ _ _ _ _)
   | (with_reducible exact ih1 _ _ _ _ _ _)
   | (with_reducible exact spec_l01At.mono _ _ _ _)
   | (with_reducible exact spec_l10List.mono _ _ _ _ _ _)
   | (with_reducible exact spec_l10Sum.mono _ _ _ _ _)
   | (with_reducible exact LeO.refl _)
   | (with_reducible exact LeO.none _)
   | (with_reducible refine LeO.ite ?_ ?_)
   | (with_reducible refine LeO.bind ?_ (fun _ => ?_))
   | exact ih0 _ _ _ _ _ _ _
   | exact ih1 _ _ _ _ _ _
   | exact spec_l01At.mono _ _ _ _
   | exact spec_l10List.mono _ _ _ _ _ _
   | exact spec_l10Sum.mono _ _ _ _ _
   | exact LeO.none _
   | refine LeO.ite ?_ ?_
   | refine LeO.bind ?_ (fun _ => ?_)
def spec_ValueBy.T6 : Bool × List (List Nat × List Nat) := (true, [([], []), ([0], [0]), ([], []), ([], []), ([2, 3], [2, 3]), ([], []), ([1, 4, 5, 4], [1, 4, 5]), ([6, 6, 0, 1, 2, 3, 4, 5, 6], [6]), ([7, 0, 1, 2, 3, 4, 5, 6, 7], [])])
def spec_ValueBy.B6 : List Nat := [0, 1, 0, 0, 12, 0, 63, 127, 255]
theorem spec_ValueBy.tab6 : rtab .any (opsOf Try.f40 6) = spec_ValueBy.T6 := by kernel_rfl
theorem spec_ValueBy.bits6 : waitsOk spec_ValueBy.T6.2 spec_ValueBy.B6 = true := by kernel_rfl
set_option maxHeartbeats 8000000 in
set_option maxRecDepth 100000 in
theorem spec_ValueBy.calls (k : Nat) (a0_0 : Int) (A0_1 : Option Addr) (c0_1 : Nat) (l0_1 : List Int) (A0_2 : Option Addr) (c0_2 : Nat) (l0_2 : List Int) (A1 : Option Addr) (c1 : Nat) (l1 : List Int) (a2 : Int) (r1 : Int) (r2 : Int) (w : World) (hr0_1 : Kd.C (Kd.int .i64) w A0_1 l0_1.length l0_1) (hc0_1 : l0_1.length ≤ c0_1) (hr0_2 : Kd.C (Kd.int .i64) w A0_2 l0_2.length l0_2) (hc0_2 : l0_2.length ≤ c0_2) (hr1 : Kd.C (Kd.int .i64) w A1 l1.length l1) (hc1 : l1.length ≤ c1) (h : spec_ValueBy.f k a0_0 l0_1 l0_2 l1 a2 = some (r1, r2)) :
  Calls Try.prog 40 #[.agg #[.int .i64 a0_0, .slice A0_1 l0_1.length c0_1, .slice A0_2 l0_2.length c0_2], .slice A1 l1.length c1, .int .i64 a2] w fun e w' => e = .returned (.tuple #[.int .i64 r1, .int .i64 r2]) ∧ Below w.heap.size w w' := by
 have hu29 := Try.underlying29
 have HR0_1 := Aside0.mk hr0_1
 have HC0_1 := Aside0.mk hc0_1
 clear hr0_1 hc0_1
 have HR0_2 := Aside0.mk hr0_2
 have HC0_2 := Aside0.mk hc0_2
 clear hr0_2 hc0_2
 have HR1 := Aside0.mk hr1
 have HC1 := Aside0.mk hc1
 clear hr1 hc1
 have HB := Aside0.mk (Below.refl w.heap.size w)
 have H : ((spec_l10List.f k a0_0 l0_1 l0_2 l1 1).bind fun t1091 => (if t1091 = 0 then ((spec_l01In.f a2 0 (wrap64 (a0_0 - 1))).bind fun t1092 => (spec_ValueBy.j0 k l1 a2 t1091 (!t1092) a0_0 l0_1 l0_2)) else (spec_ValueBy.j0 k l1 a2 t1091 false a0_0 l0_1 l0_2))) = some (r1, r2) := h
 clear h
 replace H := Option.bind_eq_some_iff.mp H
 obtain ⟨t1091, A40, H⟩ := H
 replace H : (if t1091 = 0 then ((spec_l01In.f a2 0 (wrap64 (a0_0 - 1))).bind fun t1092 => (spec_ValueBy.j0 k l1 a2 t1091 (!t1092) a0_0 l0_1 l0_2)) else (spec_ValueBy.j0 k l1 a2 t1091 false a0_0 l0_1 l0_2)) = some (r1, r2) := H
 have A4 := Aside0.mk A40
 clear A40
 have HC5 := Aside0.mk H
 clear H
 go_enter Try.func40, Try.ntmps40
 go_upto_region 2 with (first | ((with_reducible refine gate_dst (N := 3) rfl ?_); refine box_event ?hg (N := 3) ?hd (cs := #[.int .i64 a0_0, .slice A0_1 l0_1.length c0_1, .slice A0_2 l0_2.length c0_2]) (t := 29) ?hr ?_; (case hd => rfl); (case hg => rfl); (case hr => first | (go_simp; done) | (go_simp; rfl)); intro gb1090 hg w6 hbox hb; have n0_ := Aside0.mk (below_step ZB hb); have n1_ := Aside0.mk (hbox); have n2_ := Aside0.mk ((ZG hg : w.heap.size ≤ gb1090)); have n3_ := Aside0.mk ((ZG hg : w.heap.size ≤ gb1090)); clear HB; have HB := n0_; have BK1090 := n1_; have GW1090 := n2_; have GE1090 := n3_; clear n0_ n1_ n2_ n3_; clear hb hbox hg; obtain ⟨hcz7_0, hcz7_1, hcz7_2, hfz7_0, hfz7_1, hfz7_2⟩ := ZD3 BK1090) | ((with_reducible refine gate_callee (f := 79) rfl ?_); refine goesL_ (some 11) rfl rfl Try.func79 (by kernel_rfl) rfl #[.agg #[.int .i64 a0_0, .slice A0_1 l0_1.length c0_1, .slice A0_2 l0_2.length c0_2], .slice A1 l1.length c1, .int .i64 1] rfl ZA ?_; (with_reducible refine (spec_l10List.calls k a0_0 _ _ l0_1 _ _ l0_2 _ _ l1 1 t1091 _ ?side1 ?side2 ?side3 ?side4 ?side5 ?side6 A4.out).mono ?_); (case side1 => exact ZC HR0_1); (case side2 => exact HC0_1.out); (case side3 => exact ZC HR0_2); (case side4 => exact HC0_2.out); (case side5 => exact ZC HR1); (case side6 => exact HC1.out); rintro e w8 ⟨rfl, hb⟩; refine ⟨_, rfl, ?_⟩; have n0_ := ZL BK1090 hb; have n1_ := Aside0.mk (below_step ZB hb); clear BK1090; clear HB; have BK1090 := n0_; have HB := n1_; clear n0_ n1_; (try clear hb); (try clear hb2); (try clear hk); (try clear hi)))
 (try simp only [Act.put, List.setIfInBounds_toArray, List.set_cons_zero, List.set_cons_succ])
 go_cut [21] (fun v21 wc => ∃ (kq : Nat) (x21_4 : Bool), v21 = .bool x21_4 ∧ Aside0 (spec_ValueBy.j0 kq l1 a2 t1091 x21_4 a0_0 l0_1 l0_2 = some (r1, r2)) ∧ Aside0 (kq ≤ k) ∧ Aside0 (wc.heap[gb1090]? = some (.cells #[.int .i64 a0_0, (.slice A0_1 l0_1.length c0_1), (.slice A0_2 l0_2.length c0_2)] 29 (0, 0))) ∧ Aside0 (Below w.heap.size w wc))
 case first =>
  have H := HC5.out
  clear HC5
  by_cases c9 : t1091 = 0
  ·rw [if_pos c9] at H
   have c9b0 : (t1091 == 0) = true := beq_iff_eq.mpr c9
   have c9b1 : (t1091 != 0) = false := bne_eq_false_iff_eq.mpr c9
   clear c9
   (first | rw [c9b0] | (simp only [i64_w, i32_w]; rw [c9b0]) | skip)
   replace H := Option.bind_eq_some_iff.mp H
   obtain ⟨t1092, A100, H⟩ := H
   replace H : (spec_ValueBy.j0 k l1 a2 t1091 (!t1092) a0_0 l0_1 l0_2) = some (r1, r2) := H
   have A10 := Aside0.mk A100
   clear A100
   have H' := Aside0.mk H
   clear H
   obtain ⟨hcz11_0, hcz11_1, hcz11_2, hfz11_0, hfz11_1, hfz11_2⟩ := ZD3 BK1090
   go_wp2_with (first | (go_at_call 83; (with_reducible refine (spec_l01In.calls a2 0 (wrap64 (a0_0 - 1)) t1092 _ A10.out).mono ?_); rintro e w' ⟨rfl, ⟨nd, rfl⟩⟩))
   go_meet
   case rel => exact ⟨_, (!t1092), (by first | rfl | (simp; done) | (simp [*]; done)), H', ⟨by first | omega | exact Nat.le_refl _⟩, ⟨ZK BK1090⟩, ⟨ZB⟩⟩
  ·rw [if_neg c9] at H
   have c9b0 : (t1091 == 0) = false := beq_eq_false_iff_ne.mpr c9
   have c9b1 : (t1091 != 0) = true := bne_iff_ne.mpr c9
   (first | rw [c9b0] | (simp only [i64_w, i32_w]; rw [c9b0]) | skip)
   have H' := Aside0.mk H
   clear H
   go_wp2
   go_meet
   case rel => exact ⟨_, (false), (by first | rfl | (simp; done) | (simp [*]; done)), H', ⟨by first | omega | exact Nat.le_refl _⟩, ⟨ZK BK1090⟩, ⟨ZB⟩⟩
 case rest =>
  clear HC5
  try clear c1
  try clear p2
  try clear c4
  try clear p6
  try clear c7
  try clear c9
  try clear c9b0
  try clear c9b1
  try clear hcz11_0
  try clear hcz11_1
  try clear hcz11_2
  try clear hcz7_0
  try clear hcz7_1
  try clear hcz7_2
  try clear hfz11_0
  try clear hfz11_1
  try clear hfz11_2
  try clear hfz7_0
  try clear hfz7_1
  try clear hfz7_2
  obtain ⟨kq, x21_4, rfl, HA, HJ4, BK1090, HB⟩ := hcut
  cases kq with
  | zero => exact absurd HA.out (by simp [spec_ValueBy.j0])
  | succ kj4 =>
   have H := HA.out
   clear HA
   simp only [spec_ValueBy.j0] at H
   have HC12 := Aside0.mk H
   clear H
   go_upto_if 21 with (fail)
   go_cut [8] (fun v8 wc => ∃ (kq : Nat) (x8_11 : Int), v8 = .int .i64 x8_11 ∧ Aside0 (spec_ValueBy.j1 kq l1 a2 x8_11 a0_0 l0_1 l0_2 = some (r1, r2)) ∧ Aside0 (kq ≤ kj4) ∧ Aside0 (wc.heap[gb1090]? = some (.cells #[.int .i64 a0_0, (.slice A0_1 l0_1.length c0_1), (.slice A0_2 l0_2.length c0_2)] 29 (0, 0))) ∧ Aside0 (Below w.heap.size w wc))
   case first =>
    have H := HC12.out
    clear HC12
    by_cases c13 : x21_4 = true
    ·subst c13
     have H1 : (spec_ValueBy.j1 kj4 l1 a2 2 a0_0 l0_1 l0_2) = some (r1, r2) := by rw [if_pos rfl] at H; exact H
     clear H
     have H := H1
     clear H1
     have H' := Aside0.mk H
     clear H
     go_wp2
     go_meet
     case rel => exact ⟨_, (2), (by first | rfl | (simp; done) | (simp [*]; done)), H', ⟨by have := HJ4.out; first | omega | exact Nat.le_refl _⟩, ⟨ZK BK1090⟩, ⟨ZB⟩⟩
    ·replace c13 := Bool.eq_false_iff.mpr c13
     subst c13
     have H1 : (spec_ValueBy.j1 kj4 l1 a2 t1091 a0_0 l0_1 l0_2) = some (r1, r2) := by rw [if_neg (show ¬ (false = true) by decide)] at H; exact H
     clear H
     have H := H1
     clear H1
     have H' := Aside0.mk H
     clear H
     go_wp2
     go_meet
     case rel => exact ⟨_, (t1091), (by first | rfl | (simp; done) | (simp [*]; done)), H', ⟨by have := HJ4.out; first | omega | exact Nat.le_refl _⟩, ⟨ZK BK1090⟩, ⟨ZB⟩⟩
   case rest =>
    clear HC12
    try clear c1
    try clear p2
    try clear c4
    try clear p6
    try clear c7
    try clear c9
    try clear c9b0
    try clear c9b1
    try clear c13
    try clear hcz11_0
    try clear hcz11_1
    try clear hcz11_2
    try clear hcz7_0
    try clear hcz7_1
    try clear hcz7_2
    try clear hfz11_0
    try clear hfz11_1
    try clear hfz11_2
    try clear hfz7_0
    try clear hfz7_1
    try clear hfz7_2
    try clear p2
    try clear p6
    obtain ⟨kq, x8_11, rfl, HA, HJ11, BK1090, HB⟩ := hcut
    cases kq with
    | zero => exact absurd HA.out (by simp [spec_ValueBy.j1])
    | succ kj11 =>
     have H := HA.out
     clear HA
     simp only [spec_ValueBy.j1] at H
     by_cases c14 : x8_11 = 0
     ·rw [if_pos c14] at H
      have c14b0 : (x8_11 == 0) = true := beq_iff_eq.mpr c14
      have c14b1 : (x8_11 != 0) = false := bne_eq_false_iff_eq.mpr c14
      clear c14
      replace H := Option.bind_eq_some_iff.mp H
      obtain ⟨t1093, A150, H⟩ := H
      replace H : ((spec_l01At.f kj11 a0_0 t1093 a2).bind fun t1096 => (some (t1096, 0))) = some (r1, r2) := H
      have A15 := Aside0.mk A150
      clear A150
      replace H := Option.bind_eq_some_iff.mp H
      obtain ⟨t1096, A160, H⟩ := H
      replace H : (some (t1096, 0)) = some (r1, r2) := H
      have A16 := Aside0.mk A160
      clear A160
      simp only [Option.some.injEq, Prod.mk.injEq] at H
      obtain ⟨rfl, rfl⟩ := H
      try go_wp2
      have n0_ := Aside0.mk (blk_drew BK1090.out)
      have n1_ := Aside0.mk (below_drew1 HB.out)
      clear BK1090
      clear HB
      have BK1090 := n0_
      have HB := n1_
      clear n0_ n1_
      refine start_ (n := 9) (S := fun w' => w'.cell? ⟨gb1090, 0, none⟩ = some (.int .i64 a0_0) ∧ w'.cell? ⟨gb1090, 1, none⟩ = some (.slice A0_1 l0_1.length c0_1) ∧ w'.cell? ⟨gb1090, 2, none⟩ = some (.slice A0_2 l0_2.length c0_2)) (ds := []) #[false, false, false, false, false, false, false, false, false] (by kernel_rfl) rfl rfl ⟨(blk_cell BK1090.out 0).trans rfl, (blk_cell BK1090.out 1).trans rfl, (blk_cell BK1090.out 2).trans rfl⟩ (fun hHeld => ?_); refine with_tabW spec_ValueBy.tab6 spec_ValueBy.bits6 (fun HT_ HW_ => ?_)
      generalize wc.drew = w17 at BK1090 HB hHeld ⊢
      refine Zpt 0 (some 25) (h := ?_)
      refine Zpt 3 (some 28) (h := ?_)
      refine Zpt 5 (some 30) (h := ?_)
      refine ZtW3 1 (some 26) hHeld (h := ?_)
      refine ZtW3 2 (some 27) hHeld (h := ?_)
      refine one_ (i := 4) (N := some 29) #[true, true, true, true, true, true, false, false, false] rfl rfl (one_of HT_.out (by kernel_rfl)) (by decide) (fun K hK => ?_)
      refine goes_ Try.func80 (by kernel_rfl) rfl #[.agg #[.int .i64 a0_0, .slice A0_1 l0_1.length c0_1, .slice A0_2 l0_2.length c0_2], .slice A1 l1.length c1] (by rfl) rfl rfl ZA ?_
      with_reducible refine (spec_l10Sum.calls kj11 a0_0 _ _ l0_1 _ _ l0_2 _ _ l1 t1093 _ ?side1 ?side2 ?side3 ?side4 ?side5 ?side6 A15.out).mono ?_
      (case side1 => exact ZC HR0_1)
      (case side2 => exact HC0_1.out)
      (case side3 => exact ZC HR0_2)
      (case side4 => exact HC0_2.out)
      (case side5 => exact ZC HR1)
      (case side6 => exact HC1.out)
      rintro e w18 ⟨v1094, rfl, ho0, hb⟩
      refine ⟨_, rfl, ?_⟩
      have n0_ := Aside0.mk (Kd.R_lower ho0 (below_size ZB))
      have n1_ := ZL BK1090 hb
      have n2_ := Aside0.mk (below_step ZB hb)
      clear BK1090
      clear HB
      have HO1095 := n0_
      have BK1090 := n1_
      have HB := n2_
      clear n0_ n1_ n2_
      (try clear hb)
      (try clear hb2)
      (try clear hk)
      (try clear hi)
      (try clear ho0)
      obtain ⟨Ao19, co19, eo19⟩ := Kd.R_slice HO1095.out
      (first | subst eo19 | (injection eo19 with f1_ f2_ f3_; have f4_ := f1_.symm; have f5_ := f3_.symm; clear f1_ f2_ f3_; subst f4_; subst f5_))
      refine hK.out _ _ ⟨(blk_cell BK1090.out 0).trans rfl, (blk_cell BK1090.out 1).trans rfl, (blk_cell BK1090.out 2).trans rfl⟩ (fun hHeld => ?_)
      clear hK K
      refine norm_ (a' := ?_) ?_ ?_
      rotate_left
      ·show Act.put _ (some 29) _ = _
       simp only [Act.put, List.setIfInBounds_toArray, List.set_cons_zero, List.set_cons_succ, i64_w, i32_w]
       rfl
      refine one_ (i := 6) (N := some 31) #[true, true, true, true, true, true, true, false, false] rfl rfl (one_of HT_.out (by kernel_rfl)) (by decide) (fun K hK => ?_)
      refine goes_ Try.func84 (by kernel_rfl) rfl #[.int .i64 a0_0, .slice Ao19 t1093.length co19, .int .i64 a2] (by rfl) rfl rfl ZA ?_
      with_reducible refine (spec_l01At.calls kj11 a0_0 _ _ t1093 a2 t1096 _ ?side1 ?side2 A16.out).mono ?_
      (case side1 => repeat (first | exact (Kd.R_reads' HO1095.out).2.2 | (with_reducible refine Kd.C_alloc ?_ _) | (with_reducible refine Kd.C_drewN ?_ _) | (with_reducible refine Kd.C_drew ?_)))
      (case side2 => exact (Kd.R_reads' HO1095.out).2.1)
      rintro e w' ⟨rfl, ⟨nd, rfl⟩⟩
      refine ⟨_, rfl, ?_⟩
      refine hK.out _ _ ⟨(blk_cell BK1090.out 0).trans rfl, (blk_cell BK1090.out 1).trans rfl, (blk_cell BK1090.out 2).trans rfl⟩ (fun hHeld => ?_)
      clear hK K
      refine norm_ (a' := ?_) ?_ ?_
      rotate_left
      ·show Act.put _ (some 31) _ = _
       simp only [Act.put, List.setIfInBounds_toArray, List.set_cons_zero, List.set_cons_succ, i64_w, i32_w]
       rfl
      refine Zpt 7 (some 6) (h := ?_)
      refine Zpt 8 (some 7) (h := ?_)
      refine done_ (done_of HT_.out (by kernel_rfl)) ?_
      try go_wp2
      go_ret2
      exact ⟨by first | rfl | (simp [errW_none, errW_some] <;> rfl) | (simp [*, errW_none, errW_some] <;> rfl), ZB⟩
     ·rw [if_neg c14] at H
      have c14b0 : (x8_11 == 0) = false := beq_eq_false_iff_ne.mpr c14
      have c14b1 : (x8_11 != 0) = true := bne_iff_ne.mpr c14
      simp only [Option.some.injEq, Prod.mk.injEq] at H
      obtain ⟨rfl, rfl⟩ := H
      go_wp2
      go_ret2
      exact ⟨by first | rfl | (simp [errW_none, errW_some] <;> rfl) | (simp [*, errW_none, errW_some] <;> rfl), ZB⟩

-- NOT PRINTED: function 114 (slices_Backward_int64_int64)

/-! ### impl_field_value: function 85 -/
section
/-- What the world keeps for the rounds: whatever lay below n, but block g. -/
def hand_Kp (n g : Nat) (A B : World) : Prop := ∀ i, i < n → i ≠ g → B.heap[i]? = A.heap[i]?
theorem hand_Kp.trans {n g : Nat} {A B C : World} (h : hand_Kp n g A B) (k : hand_Kp n g B C) : hand_Kp n g A C := fun i hi hg => (k i hi hg).trans (h i hi hg)
theorem hand_Kp.cell {n g : Nat} {A B : World} (h : hand_Kp n g A B) {p : Addr} (hp : p.block < n) (hg : p.block ≠ g) {v : Value} (hc : A.cell? p = some v) : B.cell? p = some v := by
  have := h p.block hp hg
  simp only [World.cell?] at hc ⊢
  rw [this]; exact hc
theorem hand_Kp.put {n g : Nat} (W : World) {l : Nat} (o' : Obj) (hl : n ≤ l) : hand_Kp n g W (W.putObj l o') := fun i hi _ => World.putObj_heap_other (by omega)
theorem hand_Kp.below {n g : Nat} {A B : World} (h : Below n A B) : hand_Kp n g A B := fun i hi _ => h.block i hi
theorem hand_add_block (ad : Addr) (j : Nat) : (ad.add j).block = ad.block := by unfold Addr.add; split <;> rfl
/-- what has come behind k rounds from the end: the index, the value -/
def hand_back (l : List Int) (k : Nat) : List (Int × Int) := (List.range k).map fun (j : Nat) => ((l.length : Int) - 1 - j, rd l ((l.length : Int) - 1 - j))
theorem hand_back_succ (l : List Int) (k : Nat) : hand_back l (k + 1) = hand_back l k ++ [((l.length : Int) - 1 - k, rd l ((l.length : Int) - 1 - k))] := by simp [hand_back, List.range_succ]
theorem hand_back_length (l : List Int) (k : Nat) : (hand_back l k).length = k := by simp [hand_back]
theorem hand_back_all (l : List Int) : (hand_back l l.length).map (·.2) = l.reverse := by
  apply List.ext_getElem
  · simp [hand_back]
  · intro i h1 h2
    have hi : i < l.length := by simpa [hand_back] using h1
    simp only [hand_back, List.map_map, List.getElem_map, List.getElem_range, Function.comp, List.getElem_reverse, rd]
    rw [show ((l.length : Int) - 1 - (i : Int)).toNat = l.length - 1 - i by omega, List.getD_eq_getElem?_getD, List.getElem?_eq_getElem (by omega)]
    rfl
attribute [local go_sem] Oper.semAt_some
set_option maxRecDepth 100000 in
set_option maxHeartbeats 2000000 in
theorem hand_back1 (F : Fence) (n : Nat) (h7 : F.fn 122) (hro : F.round = none) (hn : 1 ≤ n) (l Bs m g : Nat) (ad : Addr) (c : Nat) (zs : List Int) (hlen : zs.length ≤ 9223372036854775807) (hB1 : Bs < m) (hBg : Bs ≠ g) (ha1 : ad.block < m) (hag : ad.block ≠ g) (J Jx : List (Int × Int) → World → Prop)
    (hY : ∀ pre x W, J pre W → pre.length < zs.length → YieldAt F (n - 1) Try.prog l #[.int .i64 x.1, .int .i64 x.2] W fun e W' =>
      (e = .returned (.bool true) ∧ J (pre ++ [x]) W' ∧ hand_Kp m g W W') ∨ (e = .returned (.bool false) ∧ Jx (pre ++ [x]) W'))
    (W : World) (hBs : W.cell? ⟨Bs, 0, none⟩ = some (.slice (some ad) zs.length c)) (hc : ∀ j : Nat, j < zs.length → W.cell? (ad.add j) = some (.int .i64 (rd zs j))) (h0 : J [] W) :
    CallsIn F n Try.prog 122 #[.func (.yield l) #[] #[], .pointer (some ⟨Bs, 0, none⟩)] W fun e W' => (∃ v, e = .returned v) ∧
      ((∃ ys, ys = hand_back zs zs.length ∧ J ys W') ∨ (∃ pre, (∃ k, k ≤ zs.length ∧ pre = hand_back zs k) ∧ Jx pre W')) := by
  refine callsIn_of_wp Try.func122 rfl h7 ?_ hro
  simp only [Try.ntmps122, List.size_toArray, List.length_cons, List.length_nil, Nat.reduceAdd, Nat.reduceSub, Array.replicate_succ, Array.replicate_zero, List.push_toArray, List.append_toArray, List.nil_append, List.cons_append]
  have e0 : wrap64 ((zs.length : Int) - 1) = (zs.length : Int) - 1 := by unfold wrap64; omega
  gi_wp2
  gi_loopw [3] (fun i wr => ∃ k : Nat, k ≤ zs.length ∧ i = .int .i64 ((zs.length : Int) - 1 - k) ∧ J (hand_back zs k) wr ∧ hand_Kp m g W wr)
    (fun i _ => (intOf i + 1).toNat)
  case atStart => exact ⟨0, Nat.zero_le _, by simp, h0, fun _ _ _ => rfl⟩
  case round =>
    obtain ⟨k, hk, rfl, hJs, hnx⟩ := hrel
    have hcB := hnx.cell (p := ⟨Bs, 0, none⟩) hB1 hBg hBs
    by_cases hlt : k < zs.length
    · have hge : 0 ≤ ((zs.length : Int) - 1 - k) := by omega
      have hup : ((zs.length : Int) - 1 - k) < zs.length := by omega
      have hcx : wr.cell? (ad.add ((zs.length : Int) - 1 - k).toNat) = some (.int .i64 (rd zs ((zs.length : Int) - 1 - k))) := by
        have := hnx.cell (p := ad.add (zs.length - 1 - k)) (by rw [hand_add_block]; exact ha1) (by rw [hand_add_block]; exact hag) (hc (zs.length - 1 - k) (by omega))
        rw [show ((zs.length : Int) - 1 - k) = ((zs.length - 1 - k : Nat) : Int) by omega]
        exact this
      obtain ⟨fn, tmps, assign, body, hy, hR⟩ := hY _ ((zs.length : Int) - 1 - k, rd zs ((zs.length : Int) - 1 - k)) wr hJs (by rw [hand_back_length]; exact hlt)
      dsimp only at hy
      generalize hq : (zs.length : Int) - 1 - k = q at *
      gi_wp2
      refine hR.mono ?_
      rintro e W3 (⟨rfl, hJ3, hk3⟩ | ⟨rfl, hJx3⟩)
      · gi_wp2
        go_roundw
        case rel => exact ⟨k + 1, by omega, by congr 1; omega, by rw [hand_back_succ, hq]; exact hJ3, hnx.trans hk3⟩
        case measure => simp [intOf]; omega
      · gi_wp2
        refine bodyPost_ret (results_none rfl _ _ _) rfl ?_
        exact ⟨⟨_, rfl⟩, .inr ⟨_, ⟨k + 1, by omega, by rw [hand_back_succ, hq]⟩, hJx3⟩⟩
    · obtain rfl : k = zs.length := by omega
      gi_wp2
      go_end0
      exact ⟨⟨_, rfl⟩, .inl ⟨_, rfl, hJs⟩⟩

set_option maxRecDepth 100000 in
set_option maxHeartbeats 1000000 in
theorem hand_back1_nil (F : Fence) (n : Nat) (h7 : F.fn 122) (hro : F.round = none) (l Bs : Nat) (J : List (Int × Int) → World → Prop) (W : World) (A : Option Addr) (c : Nat) (hBs : W.cell? ⟨Bs, 0, none⟩ = some (.slice A 0 c)) (h0 : J [] W) :
    CallsIn F n Try.prog 122 #[.func (.yield l) #[] #[], .pointer (some ⟨Bs, 0, none⟩)] W fun e W' => (∃ v, e = .returned v) ∧ J [] W' := by
  refine callsIn_of_wp Try.func122 rfl h7 ?_ hro
  simp only [Try.ntmps122, List.size_toArray, List.length_cons, List.length_nil, Nat.reduceAdd, Nat.reduceSub, Array.replicate_succ, Array.replicate_zero, List.push_toArray, List.append_toArray, List.nil_append, List.cons_append]
  gi_wp2
  gi_loopw [3] (fun i wr => i = .int .i64 (-1) ∧ J [] wr) (fun _ _ => 0)
  case atStart => exact ⟨by simp, h0⟩
  case round =>
    obtain ⟨rfl, hJs⟩ := hrel
    gi_wp2
    go_end0
    exact ⟨⟨_, rfl⟩, hJs⟩
set_option maxHeartbeats 1000000 in
theorem hand_backward (F : Fence) (n : Nat) (h5 : F.fn 114) (hro : F.round = none) (a : Option Addr) (len cap : Nat) (w : World) :
    CallsIn F n Try.prog 114 #[.slice a len cap] w fun e w' => e = .returned (.func (.func 122) #[] #[.pointer (some ⟨w.heap.size, 0, none⟩)]) ∧ w' = w.alloc (.cells #[.slice a len cap] 22) := by
  refine callsIn_of_wp Try.func114 rfl h5 ?_ hro
  simp only [Try.ntmps114, List.size_toArray, List.length_cons, List.length_nil, Nat.reduceAdd, Nat.reduceSub, Array.replicate_succ, Array.replicate_zero, List.push_toArray, List.append_toArray, List.nil_append, List.cons_append]
  gi_wp2
  go_ret
  exact ⟨rfl, rfl⟩

theorem hand_stops (F : Fence) (n : Nat) (h7 : F.fn 122) (hro : F.round = none) (hn : 1 ≤ n) (Bs m g : Nat) (A : Option Addr) (c : Nat) (zs : List Int) (w : World) (hmw : m ≤ w.heap.size) (hB1 : Bs < m) (hBg : Bs ≠ g) (hb : 0 < zs.length → ∀ ad, A = some ad → ad.block < m ∧ ad.block ≠ g)
    (hc : w.cell? ⟨Bs, 0, none⟩ = some (.slice A zs.length c)) (hr : Kd.C (Kd.int .i64) w A zs.length zs) :
    SeqStopsK F n Try.prog 122 #[.pointer (some ⟨Bs, 0, none⟩)] (fun x : Int × Int => #[Value.int .i64 x.1, Value.int .i64 x.2]) (hand_Kp m g) (fun ys => ys = hand_back zs zs.length) (fun pre => ∃ k, k ≤ zs.length ∧ pre = hand_back zs k) zs.length w := fun l J Jx W hW _ _ hY h0 => by
  have hlen : zs.length ≤ 9223372036854775807 := hr.2.1
  have hc' := (hW.cell (p := ⟨Bs, 0, none⟩) (Nat.lt_of_lt_of_le hB1 hmw)).trans hc
  rcases Nat.eq_zero_or_pos zs.length with hz | hz
  · obtain rfl : zs = [] := List.eq_nil_of_length_eq_zero hz
    exact (hand_back1_nil F n h7 hro l Bs J W A c hc' h0).mono fun e W' ⟨he, hj⟩ => ⟨he, .inl ⟨_, rfl, hj⟩⟩
  · obtain ⟨ad, e, hx0⟩ := hr.2.2 hz
    subst e
    obtain ⟨h1, h2⟩ := hb hz ad rfl
    refine hand_back1 F n h7 hro hn l Bs m g ad c zs hlen hB1 hBg h1 h2 J Jx hY W hc' (fun j hj => ?_) h0
    obtain ⟨ad', e, hx⟩ := Kd.at_int (Kd.C_below hr hW) (j : Int) (by omega) (by omega)
    cases e
    simpa using hx
def impl_field_value.st (p x out c : Int) : Int := (impl_field_mod.f p (wrap64 (wrap64 (out * x) + c))).getD 0
theorem impl_field_value.st_some {p : Int} (hp : p ≠ 0) (x out c : Int) : impl_field_mod.f p (wrap64 (wrap64 (out * x) + c)) = some (impl_field_value.st p x out c) := by
  unfold impl_field_value.st impl_field_mod.f
  rw [if_neg hp]; rfl
def impl_field_value.f (a0 : Int) (l1 : List Int) (a2 : Int) : Option Int := if l1.length = 0 then some 0 else if a0 = 0 then none else some (l1.reverse.foldl (impl_field_value.st a0 a2) 0)
set_option maxRecDepth 100000 in
set_option maxHeartbeats 1000000 in
theorem impl_field_value.calls (a0 : Int) (A1 : Option Addr) (c1 : Nat) (l1 : List Int) (a2 : Int) (r : Int) (w : World) (hr1 : Kd.C (Kd.int .i64) w A1 l1.length l1) (hc1 : l1.length ≤ c1) (h : impl_field_value.f a0 l1 a2 = some r) :
    Calls Try.prog 85 #[.int .i64 a0, .slice A1 l1.length c1, .int .i64 a2] w fun e w' => e = .returned (.int .i64 r) ∧ Below w.heap.size w w' := by
  have hp : l1.length ≠ 0 → a0 ≠ 0 := by
    intro h0 e
    unfold impl_field_value.f at h
    rw [if_neg h0, if_pos e] at h
    cases h
  have hres : r = l1.reverse.foldl (impl_field_value.st a0 a2) 0 := by
    unfold impl_field_value.f at h
    by_cases h0 : l1.length = 0
    · rw [if_pos h0] at h
      rw [List.eq_nil_of_length_eq_zero h0]
      exact (Option.some.inj h).symm
    · rw [if_neg h0, if_neg (hp h0)] at h
      exact (Option.some.inj h).symm
  clear h
  refine (callsIn_wide (n := 4)).1 ?_
  refine callsIn_of_wp_marks Try.func85 rfl trivial ?_ rfl
  simp only [Try.ntmps85, List.size_toArray, List.length_cons, List.length_nil, Nat.reduceAdd, Nat.reduceSub, Array.replicate_succ, Array.replicate_zero, List.push_toArray, List.append_toArray, List.nil_append, List.cons_append]
  gi_wp2_with (refine ⟨trivial, ?_⟩; gi_at_call 114; refine (hand_backward Fence.wide _ trivial rfl _ _ _ _).mono ?_; rintro e w' ⟨rfl, rfl⟩)
  have b3 := (((Boxed.new w 74 (.int .i64 a0)).alloc (.cells #[.int .i64 a2] 2)).alloc (.cells #[.int .i64 0] 2)).alloc (.cells #[.slice A1 l1.length c1] 22)
  have b5 := ((Boxed.new (w.alloc (.cells #[.int .i64 a0] 74)) 2 (.int .i64 a2)).alloc (.cells #[.int .i64 0] 2)).alloc (.cells #[.slice A1 l1.length c1] 22)
  have b7 := (Boxed.new ((w.alloc (.cells #[.int .i64 a0] 74)).alloc (.cells #[.int .i64 a2] 2)) 2 (.int .i64 0)).alloc (.cells #[.slice A1 l1.length c1] 22)
  have bS := Boxed.new (((w.alloc (.cells #[.int .i64 a0] 74)).alloc (.cells #[.int .i64 a2] 2)).alloc (.cells #[.int .i64 0] 2)) 22 (.slice A1 l1.length c1)
  have hB0 : Below w.heap.size w ((((w.alloc (.cells #[.int .i64 a0] 74)).alloc (.cells #[.int .i64 a2] 2)).alloc (.cells #[.int .i64 0] 2)).alloc (.cells #[.slice A1 l1.length c1] 22)) := ((((Below.refl _ w).alloc (Nat.le_refl _) _).alloc (by simp) _).alloc (by simp; omega) _).alloc (by simp; omega) _
  have hsz : ((((w.alloc (.cells #[.int .i64 a0] 74)).alloc (.cells #[.int .i64 a2] 2)).alloc (.cells #[.int .i64 0] 2)).alloc (.cells #[.slice A1 l1.length c1] 22)).heap.size = w.heap.size + 4 := by simp
  simp only [World.size_alloc] at b5 b7 bS
  generalize hw4 : ((((w.alloc (.cells #[.int .i64 a0] 74)).alloc (.cells #[.int .i64 a2] 2)).alloc (.cells #[.int .i64 0] 2)).alloc (.cells #[.slice A1 l1.length c1] 22)) = w4 at *
  have hblk : 0 < l1.length → ∀ ad, A1 = some ad → ad.block < w.heap.size + 4 ∧ ad.block ≠ w.heap.size + 1 + 1 := by
    intro h0 ad e
    subst e
    obtain ⟨ad', e, hx⟩ := Kd.at_int hr1 0 (by omega) (by omega)
    cases e
    have := World.block_lt_of_cell? w _ hx
    rw [hand_add_block] at this
    omega
  refine wpIn_rangeFunc_ownG rfl (by omega) (gf := 122) (lb := #[.pointer (some ⟨w.heap.size + 1 + 1 + 1, 0, none⟩)]) rfl trivial (enters_of Try.func122 (by kernel_rfl) rfl)
    (hand_stops Fence.wide 3 trivial rfl (by omega) (w.heap.size + 1 + 1 + 1) (w.heap.size + 4) (w.heap.size + 1 + 1) A1 c1 l1 w4 (by omega) (by omega) (by omega) hblk bS.cell (Kd.C_below hr1 hB0))
    (fun h k => h.trans k) (fun W l o o' hl ho _ _ => hand_Kp.put W o' (by omega)) (Below.refl _ _) (fun _ => rfl)
    (fun pre W => ((W.cell? ⟨w.heap.size + 1 + 1, 0, none⟩ = some (.int .i64 (pre.foldl (fun out x => impl_field_value.st a0 a2 out x.2) 0)) ∧ W.frozen? ⟨w.heap.size + 1 + 1, 0, none⟩ = false) ∧ W.cell? ⟨w.heap.size, 0, none⟩ = some (.int .i64 a0) ∧ W.cell? ⟨w.heap.size + 1, 0, none⟩ = some (.int .i64 a2)) ∧ Below w.heap.size w W)
    (fun _ _ _ => False)
    (OwnFrom.and (Own.from (fun s A B row hs hg hr => ⟨⟨cell_kept hs.1.1 hg hr, (frozen_kept hs.1.1 hg hr).trans hs.1.2⟩, cell_kept hs.2.1 hg hr, cell_kept hs.2.2 hg hr⟩) _) (ownFrom_below (Nat.le_refl _) (by omega)))
    (fun _ _ _ _ _ hs _ _ => hs)
    ⟨⟨⟨b7.cell, b7.frozen⟩, b3.cell, b5.cell⟩, hB0⟩
    (fun x => { tmps := #[.int .i64 a0, .slice A1 l1.length c1, .int .i64 a2, .pointer (some ⟨w.heap.size, 0, none⟩), undef, .pointer (some ⟨w.heap.size + 1, 0, none⟩), .int .i64 0, .pointer (some ⟨w.heap.size + 1 + 1, 0, none⟩), undef, .int .i64 x.2, .slice A1 l1.length c1, .func (.func 122) #[] #[.pointer (some ⟨w.heap.size + 1 + 1 + 1, 0, none⟩)], .int .i64 x.1, .int .i64 x.2, undef, undef, undef, undef, undef, undef, undef, undef], defers := [] }) ?assign ?body ?done ?stop
  case assign =>
    intro l x W K hK
    gi_wp2
    exact hK
  case body =>
    rintro l pre x W ⟨⟨⟨hc, hf⟩, h3, h5⟩, hB⟩ hlen
    have hp0 : a0 ≠ 0 := hp (by omega)
    gi_wp2_with fail
    generalize hv : List.foldl (fun out (x : Int × Int) => impl_field_value.st a0 a2 out x.2) 0 pre = v at *
    have hm := (callsIn_wide (n := 1)).2 (impl_field_mod.calls a0 _ _ W (impl_field_value.st_some hp0 a2 v x.2))
    have hm3 := CallsIn.inRound l hm
    refine ⟨trivial, ?_⟩
    refine hm3.mono ?_
    rintro e w' ⟨rfl, hd⟩
    obtain ⟨nd, rfl⟩ := hd.out
    clear hm hm3
    have c7 : (W.drewN nd).cell? ⟨w.heap.size + 1 + 1, 0, none⟩ = some (.int .i64 v) := hc
    have f7 : (W.drewN nd).frozen? ⟨w.heap.size + 1 + 1, 0, none⟩ = false := hf
    gi_wp2
    have hK1 : hand_Kp (w.heap.size + 4) (w.heap.size + 1 + 1) W ((W.drewN nd).setCell ⟨w.heap.size + 1 + 1, 0, none⟩ (.int .i64 (impl_field_value.st a0 a2 v x.2))) := fun i hi hg => Below.heap_setCell (W.drewN nd) _ _ i hg
    have hk2 := (KeepsOthers.setCell (W.drewN nd) ⟨w.heap.size + 1 + 1, 0, none⟩ (.int .i64 (impl_field_value.st a0 a2 v x.2))).from w4.heap.size
    refine ⟨⟨hk2.size, hk2.same⟩, hK1, ⟨⟨?_, ?_⟩, hK1.cell (p := ⟨w.heap.size, 0, none⟩) (by show w.heap.size < _; omega) (by show w.heap.size ≠ _; omega) h3, hK1.cell (p := ⟨w.heap.size + 1, 0, none⟩) (by show w.heap.size + 1 < _; omega) (by show w.heap.size + 1 ≠ _; omega) h5⟩, (pw_below_drewN hB nd).setCell (p := ⟨w.heap.size + 1 + 1, 0, none⟩) (show w.heap.size ≤ w.heap.size + 1 + 1 by omega) _⟩
    · rw [List.foldl_append, hv]
      exact World.cell?_setCell_same' _ _ _ (by rw [c7]; rfl)
    · rw [World.frozen?_setCell]; exact f7
  case done =>
    rintro D ys W hD rfl ⟨⟨⟨hc, _⟩, _⟩, hB⟩ hK
    gi_wp2
    refine ⟨by simp, .inl ⟨_, _, rfl, run_takeDeferred hK, ?_⟩⟩
    have hfold : List.foldl (fun out (x : Int × Int) => impl_field_value.st a0 a2 out x.2) 0 (hand_back l1 l1.length) = r := by rw [hres, ← hand_back_all, List.foldl_map]
    rw [hfold]
    exact ⟨_, results_tmp rfl _ _ _, by simp, hB.trans (belowK_b (w := w) (Nat.le_refl _) W D _ _ (by omega) hK rfl rfl)⟩
  case stop =>
    rintro D c pre W _ _ h _
    exact h.elim
end

end Go.Proofs.Ytaclapojgdekpaa.X
