/- Contracts of functions that the law reaches, printed by a program of this session; Lean checks them. -/
import Derived.Test.YtaclapojgdekpaaCExpandProductX0
import Derived.Test.YtaclapojgdekpaaCExpandProductX15
import Derived.Test.YtaclapojgdekpaaCExpandProductX16
import Derived.Test.YtaclapojgdekpaaCExpandProductX17
import Derived.Test.YtaclapojgdekpaaCExpandProductX2
import Derived.Test.YtaclapojgdekpaaCExpandProductX22
import Derived.Test.YtaclapojgdekpaaCExpandProductXZ
namespace Go.Proofs.Ytaclapojgdekpaa.X
open Go.RowKit Go.Proofs.YtaclapojgdekpaaW.PrintWords Go.Proofs.YtaclapojgdekpaaW.PrintLast Go.Proofs.YtaclapojgdekpaaW.PrintMore
attribute [local go_sem] max2_int min2_int max_two min_two max_three min_three max_four min_four   -- for this text's walks alone
set_option linter.unusedVariables false
set_option linter.unusedSimpArgs false

/-! ### spec_ExpandProduct: function 36 -/
mutual
def spec_ExpandProduct.j0 : Nat → Int → Int → Int → Bool → Int → List Int → List Int → Option (List Int × Int)
 | 0, _, _, _, _, _, _, _ => none
 | k + 1, x1, x2, x8, x24, x818000, x818001, x818002 => if x24 = true then (spec_ExpandProduct.j1 k x1 x2 2 x818000 x818001 x818002) else (spec_ExpandProduct.j1 k x1 x2 x8 x818000 x818001 x818002)
def spec_ExpandProduct.j1 : Nat → Int → Int → Int → Int → List Int → List Int → Option (List Int × Int)
 | 0, _, _, _, _, _, _ => none
 | k + 1, x1, x2, x8, x818000, x818001, x818002 => if x8 = 0 then ((spec_l03Poly.f k x818000 x818001 x818002 x1).bind fun t822 => ((spec_l03Poly.f k x818000 x818001 x818002 x2).bind fun t825 => ((spec_l01Times.f k x818000 t822 t825).bind fun t828 => ((spec_l10Expand.f k x818000 x818001 x818002 t828).bind fun t831 => (some (t831, 0)))))) else (some (([] : List Int), x8))
end
def spec_ExpandProduct.f (k : Nat) (a0_0 : Int) (l0_1 : List Int) (l0_2 : List Int) (a1 : Int) (a2 : Int) : Option (List Int × Int) := (spec_l10Code.f k a0_0 l0_1 l0_2 (([a1, a2] : List Int))).bind fun t821 => (if t821 = 0 then (spec_ExpandProduct.j0 k a1 a2 t821 (decide ((wrap64 (a1 + a2)) > (l0_1.length : Int))) a0_0 l0_1 l0_2) else (spec_ExpandProduct.j0 k a1 a2 t821 false a0_0 l0_1 l0_2))
theorem spec_ExpandProduct.mono_l : ∀ k, (∀ y0 y1 y2 y3 y4 y5 y6, LeO (spec_ExpandProduct.j0 k y0 y1 y2 y3 y4 y5 y6) (spec_ExpandProduct.j0 (k + 1) y0 y1 y2 y3 y4 y5 y6)) ∧ (∀ y0 y1 y2 y3 y4 y5, LeO (spec_ExpandProduct.j1 k y0 y1 y2 y3 y4 y5) (spec_ExpandProduct.j1 (k + 1) y0 y1 y2 y3 y4 y5))
 | 0 => ⟨fun _ _ _ _ _ _ _ r h => by simp [spec_ExpandProduct.j0] at h, fun _ _ _ _ _ _ r h => by simp [spec_ExpandProduct.j1] at h⟩
 | k + 1 => by
  obtain ⟨ih0, ih1⟩ := spec_ExpandProduct.mono_l k
  refine ⟨?_, ?_⟩
  ·intro y0 y1 y2 y3 y4 y5 y6
   unfold spec_ExpandProduct.j0
   repeat' first
   | (with_reducible exact ih0 _ _ _ _ _ _ _)
   | (with_reducible exact ih1 _ _ _ _ _ _)
   | (with_reducible exact spec_l01Times.mono _ _ _ _)
   | (with_reducible exact spec_l03Poly.mono _ _ _ _ _)
   | (with_reducible exact spec_l10Code.mono _ _ _ _ _)
   | (with_reducible exact spec_l10Expand.mono _ _ _ _ _)
   | (with_reducible exact LeO.refl _)
   | (with_reducible exact LeO.none _)
   | (with_reducible refine LeO.ite ?_ ?_)
   | (with_reducible refine LeO.bind ?_ (fun _ => ?_))
   | exact ih0 _ _ _ _ _ _ _
   | exact ih1 _ _ _ _ _ _
   | exact spec_l01Times.mono _ _ _ _
   | exact spec_l03Poly.mono _ _ _ _ _
   | exact spec_l10Code.mono _ _ _ _ _
   | exact spec_l10Expand.mono _ _ _ _ _
   | exact LeO.none _
   | refine LeO.ite ?_ ?_
   | refine LeO.bind ?_ (fun _ => ?_)
  ·intro y0 y1 y2 y3 y4 y5
   unfold spec_ExpandProduct.j1
   repeat' first
   | (with_reducible exact ih0 _ _ _ _ _ _ _)
   | (with_reducible exact ih1 _ _ _ _ _ _)
   | (with_reducible exact spec_l01Times.mono _ _ _ _)
   | (with_reducible exact spec_l03Poly.mono _ _ _ _ _)
   | (with_reducible exact spec_l10Code.mono _ _ _ _ _)
   | (with_reducible exact spec_l10Expand.mono _ _ _ _ _)
   | (with_reducible exact LeO.refl _)
   | (with_reducible exact LeO.none _)
   | (with_reducible refine LeO.ite ?_ ?_)
   | (with_reducible refine LeO.bind ?_ (fun _ => ?_))
   | exact ih0 _ _ _ _ _ _ _
   | exact ih1 _ _ _ _ _ _
   | exact spec_l01Times.mono _ _ _ _
   | exact spec_l03Poly.mono _ _ _ _ _
   | exact spec_l10Code.mono _ _ _ _ _
   | exact spec_l10Expand.mono _ _ _ _ _
   | exact LeO.none _
   | refine LeO.ite ?_ ?_
   | refine LeO.bind ?_ (fun _ => ?_)
theorem spec_ExpandProduct.mono : ∀ a0 a1 a2 a3 a4 k, LeO (spec_ExpandProduct.f k a0 a1 a2 a3 a4) (spec_ExpandProduct.f (k + 1) a0 a1 a2 a3 a4) := by
 intro a0 a1 a2 a3 a4 k
 obtain ⟨ih0, ih1⟩ := spec_ExpandProduct.mono_l k
 unfold spec_ExpandProduct.f
 repeat' first
   | (with_reducible exact ih0 _ _ _ _ _ _ _)
   | (with_reducible exact ih1 _ _ _ _ _ _)
   | (with_reducible exact spec_l01Times.mono _ _ _ _)
   | (with_reducible exact spec_l03Poly.mono _ _ _ _ _)
   | (with_reducible exact spec_l10Code.mono _ _ _ _ _)
   | (with_reducible exact spec_l10Expand.mono _ _ _ _ _)
   | (with_reducible exact LeO.refl _)
   | (with_reducible exact LeO.none _)
   | (with_reducible refine LeO.ite ?_ ?_)
   | (with_reducible refine LeO.bind ?_ (fun _ => ?_))
   | exact ih0 _ _ _ _ _ _ _
   | exact ih1 _ _ _ _ _ _
   | exact spec_l01Times.mono _ _ _ _
   | exact spec_l03Poly.mono _ _ _ _ _
   | exact spec_l10Code.mono _ _ _ _ _
   | exact spec_l10Expand.mono _ _ _ _ _
   | exact LeO.none _
   | refine LeO.ite ?_ ?_
   | refine LeO.bind ?_ (fun _ => ?_)
def spec_ExpandProduct.T6 : Bool × List (List Nat × List Nat) := (true, [([], []), ([], []), ([1], [1]), ([], []), ([], []), ([3, 4], [3, 4]), ([], []), ([], []), ([6, 7, 5], [6, 7]), ([2, 5, 8, 8], [2, 5, 8]), ([0, 9, 9], [0, 9]), ([10, 10, 0, 1, 2, 3, 4, 5, 6, 7, 8, 9, 10], [10]), ([11, 0, 1, 2, 3, 4, 5, 6, 7, 8, 9, 10, 11], [])])
def spec_ExpandProduct.B6 : List Nat := [0, 0, 2, 0, 0, 24, 0, 0, 248, 510, 1023, 2047, 4095]
theorem spec_ExpandProduct.tab6 : rtab .any (opsOf Try.f36 6) = spec_ExpandProduct.T6 := by kernel_rfl
theorem spec_ExpandProduct.bits6 : waitsOk spec_ExpandProduct.T6.2 spec_ExpandProduct.B6 = true := by kernel_rfl
set_option maxHeartbeats 8000000 in
set_option maxRecDepth 100000 in
theorem spec_ExpandProduct.calls (k : Nat) (a0_0 : Int) (A0_1 : Option Addr) (c0_1 : Nat) (l0_1 : List Int) (A0_2 : Option Addr) (c0_2 : Nat) (l0_2 : List Int) (a1 : Int) (a2 : Int) (r1 : List Int) (r2 : Int) (w : World) (hr0_1 : Kd.C (Kd.int .i64) w A0_1 l0_1.length l0_1) (hc0_1 : l0_1.length ≤ c0_1) (hr0_2 : Kd.C (Kd.int .i64) w A0_2 l0_2.length l0_2) (hc0_2 : l0_2.length ≤ c0_2) (h : spec_ExpandProduct.f k a0_0 l0_1 l0_2 a1 a2 = some (r1, r2)) :
  Calls Try.prog 36 #[.agg #[.int .i64 a0_0, .slice A0_1 l0_1.length c0_1, .slice A0_2 l0_2.length c0_2], .int .i64 a1, .int .i64 a2] w fun e w' => ∃ v0_ : Value, e = .returned (.tuple #[v0_, .int .i64 r2]) ∧ Kd.R (Kd.int .i64) 2 w' w.heap.size (fun _ => True) v0_ r1 ∧ Below w.heap.size w w' := by
 have hu29 := Try.underlying29
 have HR0_1 := Aside0.mk hr0_1
 have HC0_1 := Aside0.mk hc0_1
 clear hr0_1 hc0_1
 have HR0_2 := Aside0.mk hr0_2
 have HC0_2 := Aside0.mk hc0_2
 clear hr0_2 hc0_2
 have HB := Aside0.mk (Below.refl w.heap.size w)
 have H : ((spec_l10Code.f k a0_0 l0_1 l0_2 (([a1, a2] : List Int))).bind fun t821 => (if t821 = 0 then (spec_ExpandProduct.j0 k a1 a2 t821 (decide ((wrap64 (a1 + a2)) > (l0_1.length : Int))) a0_0 l0_1 l0_2) else (spec_ExpandProduct.j0 k a1 a2 t821 false a0_0 l0_1 l0_2))) = some (r1, r2) := h
 clear h
 obtain ⟨y818, hy818⟩ : ∃ y_ : List Int, y_ = (([a1, a2] : List Int)) := ⟨_, rfl⟩
 replace H : ((spec_l10Code.f k a0_0 l0_1 l0_2 y818).bind fun t821 => (if t821 = 0 then (spec_ExpandProduct.j0 k a1 a2 t821 (decide ((wrap64 (a1 + a2)) > (l0_1.length : Int))) a0_0 l0_1 l0_2) else (spec_ExpandProduct.j0 k a1 a2 t821 false a0_0 l0_1 l0_2))) = some (r1, r2) := by first | (rw [hy818]; with_reducible exact H) | (have H2_ := (Option.bind_some _ _).symm.trans H; rw [hy818]; with_reducible exact H2_) | (have H2_ := (Option.bind_some _ _).symm.trans H; with_reducible exact H2_) | with_reducible exact H | (rw [hy818]; exact H) | exact H
 have Ny818 := Aside0.mk hy818
 clear hy818
 replace H := Option.bind_eq_some_iff.mp H
 obtain ⟨t821, A40, H⟩ := H
 replace H : (if t821 = 0 then (spec_ExpandProduct.j0 k a1 a2 t821 (decide ((wrap64 (a1 + a2)) > (l0_1.length : Int))) a0_0 l0_1 l0_2) else (spec_ExpandProduct.j0 k a1 a2 t821 false a0_0 l0_1 l0_2)) = some (r1, r2) := H
 have A4 := Aside0.mk A40
 clear A40
 have HC5 := Aside0.mk H
 clear H
 go_enter Try.func36, Try.ntmps36
 go_upto_region 2 with (first | ((with_reducible refine gate_dst (N := 3) rfl ?_); (try (refine gate_guard (by rfl) ?_; dsimp only)); refine box_event ?hg (N := 3) ?hd (cs := #[.int .i64 a0_0, .slice A0_1 l0_1.length c0_1, .slice A0_2 l0_2.length c0_2]) (t := 29) ?hr ?_; (case hd => rfl); (case hg => rfl); (case hr => first | (go_simp; done) | (go_simp; rfl)); intro gb817 hg w6 hbox hb; have n0_ := Aside0.mk (below_step ZB hb); have n1_ := Aside0.mk (hbox); have n2_ := Aside0.mk ((ZG hg : w.heap.size ≤ gb817)); have n3_ := Aside0.mk ((ZG hg : w.heap.size ≤ gb817)); clear HB; have HB := n0_; have BK817 := n1_; have GW817 := n2_; have GE817 := n3_; clear n0_ n1_ n2_ n3_; clear hb hbox hg; obtain ⟨hcz7_0, hcz7_1, hcz7_2, hfz7_0, hfz7_1, hfz7_2⟩ := ZD3 BK817) | ((with_reducible refine gate_dst (N := 12) rfl ?_); (try (refine gate_guard (by rfl) ?_; dsimp only)); refine Kd.R_lit (Kd.int .i64) _ 2 ?hg (N := 12) ?hd (xs := ([a1, a2] : List Int)) (inner := [.int .i64 a1, .int .i64 a2]) (ok := fun _ => True) (okp := fun _ => True) ?hr ?hp (fun _ hk => hk) trivial (Below.refl _ _) (Nat.le_refl _) (by simp) ?_; (case hd => rfl); (case hg => rfl); (case hr => first | (go_simp; done) | (go_simp; rfl)); (case hp => exact (Reps.one (show Kd.M (Kd.int .i64) _ _ _ a1 [.int .i64 a1] from rfl) (Reps.one (show Kd.M (Kd.int .i64) _ _ _ a2 [.int .i64 a2] from rfl) (Reps.none _ _)))); intro v819 w8 ho9 hb hg_ hnew_; clear hg_ hnew_; (first | rw [← Ny818.out] at ho9 | (simp only [Int.reduceToNat] at ho9; rw [← Ny818.out] at ho9)); have n0_ := Aside0.mk (Kd.R_lower ho9 (below_size ZB)); have n1_ := ZL BK817 hb; have n2_ := Aside0.mk (below_step ZB hb); clear BK817; clear HB; have HO820 := n0_; have BK817 := n1_; have HB := n2_; clear n0_ n1_ n2_; clear hb ho9; obtain ⟨Ao10, co10, eo10⟩ := Kd.R_slice HO820.out; subst eo10) | ((with_reducible refine gate_callee (f := 74) rfl ?_); refine goesL_ (some 13) rfl rfl Try.func74 (by kernel_rfl) rfl #[.agg #[.int .i64 a0_0, .slice A0_1 l0_1.length c0_1, .slice A0_2 l0_2.length c0_2], .slice Ao10 y818.length co10] rfl ZA ?_; (with_reducible refine (spec_l10Code.calls k a0_0 _ _ l0_1 _ _ l0_2 _ _ y818 t821 _ ?side1 ?side2 ?side3 ?side4 ?side5 ?side6 A4.out).mono ?_); (case side1 => exact ZC HR0_1); (case side2 => exact HC0_1.out); (case side3 => exact ZC HR0_2); (case side4 => exact HC0_2.out); (case side5 => repeat (first | exact (Kd.R_reads' HO820.out).2.2 | (with_reducible refine Kd.C_alloc ?_ _) | (with_reducible refine Kd.C_drewN ?_ _) | (with_reducible refine Kd.C_drew ?_))); (case side6 => exact (Kd.R_reads' HO820.out).2.1); rintro e w11 ⟨rfl, hb⟩; refine ⟨_, rfl, ?_⟩; have n0_ := Aside0.mk (Kd.R_below (ZR HO820) hb); have n1_ := ZL BK817 hb; have n2_ := Aside0.mk (below_step ZB hb); clear HO820; clear BK817; clear HB; have HO820 := n0_; have BK817 := n1_; have HB := n2_; clear n0_ n1_ n2_; (try clear hb); (try clear hb2); (try clear hk); (try clear hi)))
 (try simp only [Act.put, List.setIfInBounds_toArray, List.set_cons_zero, List.set_cons_succ])
 go_cut [24] (fun v24 wc => ∃ (kq : Nat) (x24_4 : Bool), v24 = .bool x24_4 ∧ Aside0 (spec_ExpandProduct.j0 kq a1 a2 t821 x24_4 a0_0 l0_1 l0_2 = some (r1, r2)) ∧ Aside0 (kq ≤ k) ∧ Aside0 (wc.heap[gb817]? = some (.cells #[.int .i64 a0_0, (.slice A0_1 l0_1.length c0_1), (.slice A0_2 l0_2.length c0_2)] 29 (0, 0))) ∧ Aside0 (Below w.heap.size w wc))
 case first =>
  have H := HC5.out
  clear HC5
  by_cases c12 : t821 = 0
  ·rw [if_pos c12] at H
   have c12b0 : (t821 == 0) = true := beq_iff_eq.mpr c12
   have c12b1 : (t821 != 0) = false := bne_eq_false_iff_eq.mpr c12
   clear c12
   (first | rw [c12b0] | (simp only [i64_w, i32_w]; rw [c12b0]) | skip)
   have H' := Aside0.mk H
   clear H
   obtain ⟨hcz13_0, hcz13_1, hcz13_2, hfz13_0, hfz13_1, hfz13_2⟩ := ZD3 BK817
   go_wp2
   go_meet
   case rel => exact ⟨_, (decide ((wrap64 (a1 + a2)) > (l0_1.length : Int))), (by first | rfl | (simp; done) | (simp [*]; done)), H', ⟨by first | omega | exact Nat.le_refl _⟩, ⟨ZK BK817⟩, ⟨ZB⟩⟩
  ·rw [if_neg c12] at H
   have c12b0 : (t821 == 0) = false := beq_eq_false_iff_ne.mpr c12
   have c12b1 : (t821 != 0) = true := bne_iff_ne.mpr c12
   (first | rw [c12b0] | (simp only [i64_w, i32_w]; rw [c12b0]) | skip)
   have H' := Aside0.mk H
   clear H
   go_wp2
   go_meet
   case rel => exact ⟨_, (false), (by first | rfl | (simp; done) | (simp [*]; done)), H', ⟨by first | omega | exact Nat.le_refl _⟩, ⟨ZK BK817⟩, ⟨ZB⟩⟩
 case rest =>
  clear HC5
  try clear c1
  try clear p2
  try clear c3
  try clear p6
  try clear c7
  try clear c12
  try clear c12b0
  try clear c12b1
  try clear hcz13_0
  try clear hcz13_1
  try clear hcz13_2
  try clear hcz7_0
  try clear hcz7_1
  try clear hcz7_2
  try clear hfz13_0
  try clear hfz13_1
  try clear hfz13_2
  try clear hfz7_0
  try clear hfz7_1
  try clear hfz7_2
  obtain ⟨kq, x24_4, rfl, HA, HJ4, BK817, HB⟩ := hcut
  cases kq with
  | zero => exact absurd HA.out (by simp [spec_ExpandProduct.j0])
  | succ kj4 =>
   have H := HA.out
   clear HA
   simp only [spec_ExpandProduct.j0] at H
   have HC14 := Aside0.mk H
   clear H
   go_upto_if 24 with (fail)
   go_cut [8] (fun v8 wc => ∃ (kq : Nat) (x8_13 : Int), v8 = .int .i64 x8_13 ∧ Aside0 (spec_ExpandProduct.j1 kq a1 a2 x8_13 a0_0 l0_1 l0_2 = some (r1, r2)) ∧ Aside0 (kq ≤ kj4) ∧ Aside0 (wc.heap[gb817]? = some (.cells #[.int .i64 a0_0, (.slice A0_1 l0_1.length c0_1), (.slice A0_2 l0_2.length c0_2)] 29 (0, 0))) ∧ Aside0 (Below w.heap.size w wc))
   case first =>
    have H := HC14.out
    clear HC14
    by_cases c15 : x24_4 = true
    ·subst c15
     have H1 : (spec_ExpandProduct.j1 kj4 a1 a2 2 a0_0 l0_1 l0_2) = some (r1, r2) := by rw [if_pos rfl] at H; exact H
     clear H
     have H := H1
     clear H1
     have H' := Aside0.mk H
     clear H
     go_wp2
     go_meet
     case rel => exact ⟨_, (2), (by first | rfl | (simp; done) | (simp [*]; done)), H', ⟨by have := HJ4.out; first | omega | exact Nat.le_refl _⟩, ⟨ZK BK817⟩, ⟨ZB⟩⟩
    ·replace c15 := Bool.eq_false_iff.mpr c15
     subst c15
     have H1 : (spec_ExpandProduct.j1 kj4 a1 a2 t821 a0_0 l0_1 l0_2) = some (r1, r2) := by rw [if_neg (show ¬ (false = true) by decide)] at H; exact H
     clear H
     have H := H1
     clear H1
     have H' := Aside0.mk H
     clear H
     go_wp2
     go_meet
     case rel => exact ⟨_, (t821), (by first | rfl | (simp; done) | (simp [*]; done)), H', ⟨by have := HJ4.out; first | omega | exact Nat.le_refl _⟩, ⟨ZK BK817⟩, ⟨ZB⟩⟩
   case rest =>
    clear HC14
    try clear c1
    try clear p2
    try clear c3
    try clear p6
    try clear c7
    try clear c12
    try clear c12b0
    try clear c12b1
    try clear c15
    try clear hcz13_0
    try clear hcz13_1
    try clear hcz13_2
    try clear hcz7_0
    try clear hcz7_1
    try clear hcz7_2
    try clear hfz13_0
    try clear hfz13_1
    try clear hfz13_2
    try clear hfz7_0
    try clear hfz7_1
    try clear hfz7_2
    try clear p2
    try clear p6
    obtain ⟨kq, x8_13, rfl, HA, HJ13, BK817, HB⟩ := hcut
    cases kq with
    | zero => exact absurd HA.out (by simp [spec_ExpandProduct.j1])
    | succ kj13 =>
     have H := HA.out
     clear HA
     simp only [spec_ExpandProduct.j1] at H
     by_cases c16 : x8_13 = 0
     ·rw [if_pos c16] at H
      have c16b0 : (x8_13 == 0) = true := beq_iff_eq.mpr c16
      have c16b1 : (x8_13 != 0) = false := bne_eq_false_iff_eq.mpr c16
      clear c16
      replace H := Option.bind_eq_some_iff.mp H
      obtain ⟨t822, A170, H⟩ := H
      replace H : ((spec_l03Poly.f kj13 a0_0 l0_1 l0_2 a2).bind fun t825 => ((spec_l01Times.f kj13 a0_0 t822 t825).bind fun t828 => ((spec_l10Expand.f kj13 a0_0 l0_1 l0_2 t828).bind fun t831 => (some (t831, 0))))) = some (r1, r2) := H
      have A17 := Aside0.mk A170
      clear A170
      replace H := Option.bind_eq_some_iff.mp H
      obtain ⟨t825, A180, H⟩ := H
      replace H : ((spec_l01Times.f kj13 a0_0 t822 t825).bind fun t828 => ((spec_l10Expand.f kj13 a0_0 l0_1 l0_2 t828).bind fun t831 => (some (t831, 0)))) = some (r1, r2) := H
      have A18 := Aside0.mk A180
      clear A180
      replace H := Option.bind_eq_some_iff.mp H
      obtain ⟨t828, A190, H⟩ := H
      replace H : ((spec_l10Expand.f kj13 a0_0 l0_1 l0_2 t828).bind fun t831 => (some (t831, 0))) = some (r1, r2) := H
      have A19 := Aside0.mk A190
      clear A190
      replace H := Option.bind_eq_some_iff.mp H
      obtain ⟨t831, A200, H⟩ := H
      replace H : (some (t831, 0)) = some (r1, r2) := H
      have A20 := Aside0.mk A200
      clear A200
      simp only [Option.some.injEq, Prod.mk.injEq] at H
      obtain ⟨rfl, rfl⟩ := H
      try go_wp2
      have n0_ := Aside0.mk (blk_drew BK817.out)
      have n1_ := Aside0.mk (below_drew1 HB.out)
      clear BK817
      clear HB
      have BK817 := n0_
      have HB := n1_
      clear n0_ n1_
      refine start_ (n := 13) (S := fun w' => w'.cell? ⟨gb817, 0, none⟩ = some (.int .i64 a0_0) ∧ w'.cell? ⟨gb817, 1, none⟩ = some (.slice A0_1 l0_1.length c0_1) ∧ w'.cell? ⟨gb817, 2, none⟩ = some (.slice A0_2 l0_2.length c0_2)) (ds := []) #[false, false, false, false, false, false, false, false, false, false, false, false, false] (by kernel_rfl) rfl rfl ⟨(blk_cell BK817.out 0).trans rfl, (blk_cell BK817.out 1).trans rfl, (blk_cell BK817.out 2).trans rfl⟩ (fun hHeld => ?_); refine with_tabW spec_ExpandProduct.tab6 spec_ExpandProduct.bits6 (fun HT_ HW_ => ?_)
      generalize wc.drew = w21 at BK817 HB hHeld ⊢
      refine Zpt 1 (some 29) (h := ?_)
      refine Zpt 4 (some 32) (h := ?_)
      refine Zpt 7 (some 35) (h := ?_)
      refine ZtW3 0 (some 28) hHeld (h := ?_)
      refine ZtW3 2 (some 30) hHeld (h := ?_)
      refine ZtW3 3 (some 31) hHeld (h := ?_)
      refine ZtW3 6 (some 34) hHeld (h := ?_)
      refine one_ (i := 5) (N := some 33) #[true, true, true, true, true, true, true, true, false, false, false, false, false] rfl rfl (one_of HT_.out (by kernel_rfl)) (by decide) (fun K hK => ?_)
      refine goes_ Try.func75 (by kernel_rfl) rfl #[.agg #[.int .i64 a0_0, .slice A0_1 l0_1.length c0_1, .slice A0_2 l0_2.length c0_2], .int .i64 a1] (by rfl) rfl rfl ZA ?_
      with_reducible refine (spec_l03Poly.calls kj13 a0_0 _ _ l0_1 _ _ l0_2 a1 t822 _ ?side1 ?side2 ?side3 ?side4 A17.out).mono ?_
      (case side1 => exact ZC HR0_1)
      (case side2 => exact HC0_1.out)
      (case side3 => exact ZC HR0_2)
      (case side4 => exact HC0_2.out)
      rintro e w22 ⟨v823, rfl, ho0, hb⟩
      refine ⟨_, rfl, ?_⟩
      have n0_ := Aside0.mk (Kd.R_lower ho0 (below_size ZB))
      have n1_ := ZL BK817 hb
      have n2_ := Aside0.mk (below_step ZB hb)
      clear BK817
      clear HB
      have HO824 := n0_
      have BK817 := n1_
      have HB := n2_
      clear n0_ n1_ n2_
      (try clear hb)
      (try clear hb2)
      (try clear hk)
      (try clear hi)
      (try clear ho0)
      refine hK.out _ _ ⟨(blk_cell BK817.out 0).trans rfl, (blk_cell BK817.out 1).trans rfl, (blk_cell BK817.out 2).trans rfl⟩ (fun hHeld => ?_)
      clear hK K
      refine norm_ (a' := ?_) ?_ ?_
      rotate_left
      ·show Act.put _ (some 33) _ = _
       simp only [Act.put, List.setIfInBounds_toArray, List.set_cons_zero, List.set_cons_succ, i64_w, i32_w]
       rfl
      refine one_ (i := 8) (N := some 36) #[true, true, true, true, true, true, true, true, true, false, false, false, false] rfl rfl (one_of HT_.out (by kernel_rfl)) (by decide) (fun K hK => ?_)
      refine goes_ Try.func75 (by kernel_rfl) rfl #[.agg #[.int .i64 a0_0, .slice A0_1 l0_1.length c0_1, .slice A0_2 l0_2.length c0_2], .int .i64 a2] (by rfl) rfl rfl ZA ?_
      with_reducible refine (spec_l03Poly.calls kj13 a0_0 _ _ l0_1 _ _ l0_2 a2 t825 _ ?side1 ?side2 ?side3 ?side4 A18.out).mono ?_
      (case side1 => exact ZC HR0_1)
      (case side2 => exact HC0_1.out)
      (case side3 => exact ZC HR0_2)
      (case side4 => exact HC0_2.out)
      rintro e w23 ⟨v826, rfl, ho0, hb⟩
      refine ⟨_, rfl, ?_⟩
      have n0_ := Aside0.mk (Kd.R_elder' (ZR HO824) (Kd.R_base ho0) hb)
      have n1_ := Aside0.mk (Kd.R_lower (Kd.R_new' ho0 (Kd.R_lt (ZR HO824))) (below_size ZB))
      have n2_ := ZL BK817 hb
      have n3_ := Aside0.mk (below_step ZB hb)
      clear HO824
      clear BK817
      clear HB
      have HO824 := n0_
      have HO827 := n1_
      have BK817 := n2_
      have HB := n3_
      clear n0_ n1_ n2_ n3_
      (try clear hb)
      (try clear hb2)
      (try clear hk)
      (try clear hi)
      (try clear ho0)
      obtain ⟨Ao24, co24, eo24⟩ := Kd.R_slice HO824.out
      (first | subst eo24 | (injection eo24 with f1_ f2_ f3_; have f4_ := f1_.symm; have f5_ := f3_.symm; clear f1_ f2_ f3_; subst f4_; subst f5_))
      obtain ⟨Ao25, co25, eo25⟩ := Kd.R_slice HO827.out
      (first | subst eo25 | (injection eo25 with f1_ f2_ f3_; have f4_ := f1_.symm; have f5_ := f3_.symm; clear f1_ f2_ f3_; subst f4_; subst f5_))
      refine hK.out _ _ ⟨(blk_cell BK817.out 0).trans rfl, (blk_cell BK817.out 1).trans rfl, (blk_cell BK817.out 2).trans rfl⟩ (fun hHeld => ?_)
      clear hK K
      refine norm_ (a' := ?_) ?_ ?_
      rotate_left
      ·show Act.put _ (some 36) _ = _
       simp only [Act.put, List.setIfInBounds_toArray, List.set_cons_zero, List.set_cons_succ, i64_w, i32_w]
       rfl
      refine one_ (i := 9) (N := some 37) #[true, true, true, true, true, true, true, true, true, true, false, false, false] rfl rfl (one_of HT_.out (by kernel_rfl)) (by decide) (fun K hK => ?_)
      refine goes_ Try.func77 (by kernel_rfl) rfl #[.int .i64 a0_0, .slice Ao24 t822.length co24, .slice Ao25 t825.length co25] (by rfl) rfl rfl ZA ?_
      with_reducible refine (spec_l01Times.calls kj13 a0_0 _ _ t822 _ _ t825 t828 _ ?side1 ?side2 ?side3 ?side4 A19.out).mono ?_
      (case side1 => repeat (first | exact (Kd.R_reads' HO824.out).2.2 | (with_reducible refine Kd.C_alloc ?_ _) | (with_reducible refine Kd.C_drewN ?_ _) | (with_reducible refine Kd.C_drew ?_)))
      (case side2 => exact (Kd.R_reads' HO824.out).2.1)
      (case side3 => repeat (first | exact (Kd.R_reads' HO827.out).2.2 | (with_reducible refine Kd.C_alloc ?_ _) | (with_reducible refine Kd.C_drewN ?_ _) | (with_reducible refine Kd.C_drew ?_)))
      (case side4 => exact (Kd.R_reads' HO827.out).2.1)
      rintro e w26 ⟨v829, rfl, ho0, hb⟩
      refine ⟨_, rfl, ?_⟩
      have n0_ := Aside0.mk (Kd.R_elder' (ZR HO824) (Kd.R_base ho0) hb)
      have n1_ := Aside0.mk (Kd.R_elder' (ZR HO827) (Kd.R_base ho0) hb)
      have n2_ := Aside0.mk (Kd.R_lower (Kd.R_new' (Kd.R_new' ho0 (Kd.R_lt (ZR HO824))) (Kd.R_lt (ZR HO827))) (below_size ZB))
      have n3_ := ZL BK817 hb
      have n4_ := Aside0.mk (below_step ZB hb)
      clear HO824
      clear HO827
      clear BK817
      clear HB
      have HO824 := n0_
      have HO827 := n1_
      have HO830 := n2_
      have BK817 := n3_
      have HB := n4_
      clear n0_ n1_ n2_ n3_ n4_
      (try clear hb)
      (try clear hb2)
      (try clear hk)
      (try clear hi)
      (try clear ho0)
      obtain ⟨Ao27, co27, eo27⟩ := Kd.R_slice HO830.out
      (first | subst eo27 | (injection eo27 with f1_ f2_ f3_; have f4_ := f1_.symm; have f5_ := f3_.symm; clear f1_ f2_ f3_; subst f4_; subst f5_))
      refine hK.out _ _ ⟨(blk_cell BK817.out 0).trans rfl, (blk_cell BK817.out 1).trans rfl, (blk_cell BK817.out 2).trans rfl⟩ (fun hHeld => ?_)
      clear hK K
      refine norm_ (a' := ?_) ?_ ?_
      rotate_left
      ·show Act.put _ (some 37) _ = _
       simp only [Act.put, List.setIfInBounds_toArray, List.set_cons_zero, List.set_cons_succ, i64_w, i32_w]
       rfl
      refine one_ (i := 10) (N := some 38) #[true, true, true, true, true, true, true, true, true, true, true, false, false] rfl rfl (one_of HT_.out (by kernel_rfl)) (by decide) (fun K hK => ?_)
      refine goes_ Try.func68 (by kernel_rfl) rfl #[.agg #[.int .i64 a0_0, .slice A0_1 l0_1.length c0_1, .slice A0_2 l0_2.length c0_2], .slice Ao27 t828.length co27] (by rfl) rfl rfl ZA ?_
      with_reducible refine (spec_l10Expand.calls kj13 a0_0 _ _ l0_1 _ _ l0_2 (fun k_ => some k_ = (.slice Ao27 t828.length co27 : Value).ownBlock) _ _ t828 t831 _ ?side1 ?side2 ?side3 ?side4 ?side5 A20.out).mono ?_
      (case side1 => exact ZC HR0_1)
      (case side2 => exact HC0_1.out)
      (case side3 => exact ZC HR0_2)
      (case side4 => exact HC0_2.out)
      (case side5 => exact Kd.R_V (Kd.R_tight rfl (Kd.R_types (HO830.out) BK817.out (by decide))))
      rintro e w28 ⟨v832, rfl, ho0, hb⟩
      refine ⟨_, rfl, ?_⟩
      have n0_ := Aside0.mk (Kd.R_elder' (ZR HO824) (Kd.R_base ho0) hb)
      have n1_ := Aside0.mk (Kd.R_elder' (ZR HO827) (Kd.R_base ho0) hb)
      have n2_ := Aside0.mk (Kd.R_elder' (ZR HO830) (Kd.R_base ho0) hb)
      have n3_ := Aside0.mk (Kd.R_lower (Kd.R_new' (Kd.R_new' (Kd.R_new' (Kd.R_mono (ok' := fun k_ => True) ho0 (fun _ hk_ => trivial)) (Kd.R_lt (ZR HO824))) (Kd.R_lt (ZR HO827))) (Kd.R_lt (ZR HO830))) (below_size ZB))
      have n4_ := ZL BK817 hb
      have n5_ := Aside0.mk (below_step ZB hb)
      clear HO824
      clear HO827
      clear HO830
      clear BK817
      clear HB
      have HO824 := n0_
      have HO827 := n1_
      have HO830 := n2_
      have HO833 := n3_
      have BK817 := n4_
      have HB := n5_
      clear n0_ n1_ n2_ n3_ n4_ n5_
      (try clear hb)
      (try clear hb2)
      (try clear hk)
      (try clear hi)
      (try clear ho0)
      refine hK.out _ _ ⟨(blk_cell BK817.out 0).trans rfl, (blk_cell BK817.out 1).trans rfl, (blk_cell BK817.out 2).trans rfl⟩ (fun hHeld => ?_)
      clear hK K
      refine norm_ (a' := ?_) ?_ ?_
      rotate_left
      ·show Act.put _ (some 38) _ = _
       simp only [Act.put, List.setIfInBounds_toArray, List.set_cons_zero, List.set_cons_succ, i64_w, i32_w]
       rfl
      refine Zpt 11 (some 6) (h := ?_)
      refine Zpt 12 (some 7) (h := ?_)
      refine done_ (done_of HT_.out (by kernel_rfl)) ?_
      try go_wp2
      go_ret2
      exact ⟨_, by first | rfl | (simp [errW_none, errW_some] <;> rfl) | (simp [*, errW_none, errW_some] <;> rfl), by refine ZQ ?_; exact Kd.R_mono HO833.out (fun _ hk => trivial), ZB⟩
     ·rw [if_neg c16] at H
      have c16b0 : (x8_13 == 0) = false := beq_eq_false_iff_ne.mpr c16
      have c16b1 : (x8_13 != 0) = true := bne_iff_ne.mpr c16
      simp only [Option.some.injEq, Prod.mk.injEq] at H
      obtain ⟨rfl, rfl⟩ := H
      go_wp2
      go_ret2
      exact ⟨_, by first | rfl | (simp [errW_none, errW_some] <;> rfl) | (simp [*, errW_none, errW_some] <;> rfl), by first | exact Kd.R_nil _ _ _ _ _ | exact Kd.N_nil _ _ _ _ _ | exact Kd.V_nil _ _ _ _ _ | exact Kd.Q_nil _ _ _ _ _ | exact Kd.S_nil _ _ _ _ _, ZB⟩

end Go.Proofs.Ytaclapojgdekpaa.X
