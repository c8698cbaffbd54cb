/- Contracts of functions that the law reaches, printed by a program of this session; Lean checks them. -/
import Derived.Test.YtaclapojgdekpaaCConnectJacobiX0
import Derived.Test.YtaclapojgdekpaaCConnectJacobiX18
import Derived.Test.YtaclapojgdekpaaCConnectJacobiX19
import Derived.Test.YtaclapojgdekpaaCConnectJacobiX5
import Derived.Test.YtaclapojgdekpaaCConnectJacobiX6
import Derived.Test.YtaclapojgdekpaaCConnectJacobiXZ
namespace Go.Proofs.Ytaclapojgdekpaa.X
open Go.RowKit Go.Proofs.YtaclapojgdekpaaW.PrintWords Go.Proofs.YtaclapojgdekpaaW.PrintLast Go.Proofs.YtaclapojgdekpaaW.PrintMore
attribute [local go_sem] max2_int min2_int max_two min_two max_three min_three max_four min_four   -- for this text's walks alone
set_option linter.unusedVariables false
set_option linter.unusedSimpArgs false

/-! ### impl_ConnectJacobi: function 33 -/
def impl_ConnectJacobi.j0 : Nat → Int → Bool → Int → List Int → List Int → Int → List Int → List Int → Option (List Int × Int)
 | 0, _, _, _, _, _, _, _, _ => none
 | k + 1, x2, x8, x672000, x672001, x672002, x673000, x673001, x673002 => if x8 = true then (some (([] : List Int), 1)) else (if x672000 = x673000 then ((impl_Jacobi_size.f x672000 x672001 x672002).bind fun t675 => ((impl_Jacobi_size.f x673000 x673001 x673002).bind fun t676 => ((impl_within.f x2 0 (mn t675 t676)).bind fun t677 => (if t677 = true then ((impl_Jacobi_field.f x672000 x672001 x672002).bind fun t678 => ((impl_Jacobi_polys.f k x672000 x672001 x672002).bind fun t679 => (if 0 ≤ x2 then (if x2 < (t679.length : Int) then ((impl_Jacobi_polys.f k x673000 x673001 x673002).bind fun t683 => ((impl_field_expand.f k t678 (rd_L1 t679 x2) t683).bind fun t686 => (some (t686, 0)))) else (none)) else (none)))) else (some (([] : List Int), 2)))))) else (some (([] : List Int), 2)))
def impl_ConnectJacobi.f (k : Nat) (a0_0 : Int) (l0_1 : List Int) (l0_2 : List Int) (a1_0 : Int) (l1_1 : List Int) (l1_2 : List Int) (a2 : Int) : Option (List Int × Int) := (impl_IsJacobi.f k a0_0 l0_1 l0_2).bind fun t673 => (if t673 = true then ((impl_IsJacobi.f k a1_0 l1_1 l1_2).bind fun t674 => (impl_ConnectJacobi.j0 k a2 (!t674) a0_0 l0_1 l0_2 a1_0 l1_1 l1_2)) else (impl_ConnectJacobi.j0 k a2 true a0_0 l0_1 l0_2 a1_0 l1_1 l1_2))
theorem impl_ConnectJacobi.mono_l : ∀ k, (∀ y0 y1 y2 y3 y4 y5 y6 y7, LeO (impl_ConnectJacobi.j0 k y0 y1 y2 y3 y4 y5 y6 y7) (impl_ConnectJacobi.j0 (k + 1) y0 y1 y2 y3 y4 y5 y6 y7))
 | 0 => fun _ _ _ _ _ _ _ _ r h => by simp [impl_ConnectJacobi.j0] at h
 | k + 1 => by
  have ih0 := impl_ConnectJacobi.mono_l k
  ·intro y0 y1 y2 y3 y4 y5 y6 y7
   unfold impl_ConnectJacobi.j0
   repeat' first
   | (with_reducible exact ih0 _ _ _ _ _ _ _ _)
   | (with_reducible exact impl_IsJacobi.mono _ _ _ _)
   | (with_reducible exact impl_Jacobi_polys.mono _ _ _ _)
   | (with_reducible exact impl_field_expand.mono _ _ _ _)
   | (with_reducible exact LeO.refl _)
   | (with_reducible exact LeO.none _)
   | (with_reducible refine LeO.ite ?_ ?_)
   | (with_reducible refine LeO.bind ?_ (fun _ => ?_))
   | exact ih0 _ _ _ _ _ _ _ _
   | exact impl_IsJacobi.mono _ _ _ _
   | exact impl_Jacobi_polys.mono _ _ _ _
   | exact impl_field_expand.mono _ _ _ _
   | exact LeO.none _
   | refine LeO.ite ?_ ?_
   | refine LeO.bind ?_ (fun _ => ?_)
theorem impl_ConnectJacobi.mono : ∀ a0 a1 a2 a3 a4 a5 a6 k, LeO (impl_ConnectJacobi.f k a0 a1 a2 a3 a4 a5 a6) (impl_ConnectJacobi.f (k + 1) a0 a1 a2 a3 a4 a5 a6) := by
 intro a0 a1 a2 a3 a4 a5 a6 k
 have ih0 := impl_ConnectJacobi.mono_l k
 unfold impl_ConnectJacobi.f
 repeat' first
   | (with_reducible exact ih0 _ _ _ _ _ _ _ _)
   | (with_reducible exact impl_IsJacobi.mono _ _ _ _)
   | (with_reducible exact impl_Jacobi_polys.mono _ _ _ _)
   | (with_reducible exact impl_field_expand.mono _ _ _ _)
   | (with_reducible exact LeO.refl _)
   | (with_reducible exact LeO.none _)
   | (with_reducible refine LeO.ite ?_ ?_)
   | (with_reducible refine LeO.bind ?_ (fun _ => ?_))
   | exact ih0 _ _ _ _ _ _ _ _
   | exact impl_IsJacobi.mono _ _ _ _
   | exact impl_Jacobi_polys.mono _ _ _ _
   | exact impl_field_expand.mono _ _ _ _
   | exact LeO.none _
   | refine LeO.ite ?_ ?_
   | refine LeO.bind ?_ (fun _ => ?_)
def impl_ConnectJacobi.T3 : Bool × List (List Nat × List Nat) := (true, [([], []), ([0], [0]), ([], []), ([2], [2]), ([1, 3], [1, 3]), ([4], [4]), ([5], [5]), ([5], [5]), ([7, 5, 5], [5, 7]), ([5], [5]), ([9, 8, 5], [5, 9]), ([8, 10, 5], [5, 8, 10]), ([6, 11, 10, 5], [5, 6, 11]), ([12, 5], [5, 12]), ([5, 13], [5, 13]), ([14, 12], [14])])
def impl_ConnectJacobi.B3 : List Nat := [0, 1, 0, 4, 15, 31, 63, 63, 191, 63, 959, 1983, 4095, 8191, 16383, 32767]
theorem impl_ConnectJacobi.tab3 : rtab .any (opsOf Try.f33 3) = impl_ConnectJacobi.T3 := by kernel_rfl
theorem impl_ConnectJacobi.bits3 : waitsOk impl_ConnectJacobi.T3.2 impl_ConnectJacobi.B3 = true := by kernel_rfl
def impl_ConnectJacobi.T5 : Bool × List (List Nat × List Nat) := (true, [([], []), ([0], [0]), ([], []), ([2, 1], [2]), ([], []), ([3, 4], [3, 4]), ([5], [5]), ([], []), ([7, 3], [7]), ([1, 6, 8, 8], [1, 6, 8]), ([9, 9, 0, 1, 2, 3, 4, 5, 6, 7, 8, 9], [9]), ([10, 0, 1, 2, 3, 4, 5, 6, 7, 8, 9, 10], [])])
def impl_ConnectJacobi.B5 : List Nat := [0, 1, 0, 7, 0, 31, 63, 0, 143, 511, 1023, 2047]
theorem impl_ConnectJacobi.tab5 : rtab .any (opsOf Try.f33 5) = impl_ConnectJacobi.T5 := by kernel_rfl
theorem impl_ConnectJacobi.bits5 : waitsOk impl_ConnectJacobi.T5.2 impl_ConnectJacobi.B5 = true := by kernel_rfl
set_option maxHeartbeats 8000000 in
set_option maxRecDepth 100000 in
theorem impl_ConnectJacobi.calls (k : Nat) (a0_0 : Int) (A0_1 : Option Addr) (c0_1 : Nat) (l0_1 : List Int) (A0_2 : Option Addr) (c0_2 : Nat) (l0_2 : List Int) (a1_0 : Int) (A1_1 : Option Addr) (c1_1 : Nat) (l1_1 : List Int) (A1_2 : Option Addr) (c1_2 : Nat) (l1_2 : List Int) (a2 : Int) (r1 : List Int) (r2 : Int) (w : World) (hr0_1 : Kd.C (Kd.int .i64) w A0_1 l0_1.length l0_1) (hc0_1 : l0_1.length ≤ c0_1) (hr0_2 : Kd.C (Kd.int .i64) w A0_2 l0_2.length l0_2) (hc0_2 : l0_2.length ≤ c0_2) (hr1_1 : Kd.C (Kd.int .i64) w A1_1 l1_1.length l1_1) (hc1_1 : l1_1.length ≤ c1_1) (hr1_2 : Kd.C (Kd.int .i64) w A1_2 l1_2.length l1_2) (hc1_2 : l1_2.length ≤ c1_2) (h : impl_ConnectJacobi.f k a0_0 l0_1 l0_2 a1_0 l1_1 l1_2 a2 = some (r1, r2)) :
  Calls Try.prog 33 #[.agg #[.int .i64 a0_0, .slice A0_1 l0_1.length c0_1, .slice A0_2 l0_2.length c0_2], .agg #[.int .i64 a1_0, .slice A1_1 l1_1.length c1_1, .slice A1_2 l1_2.length c1_2], .int .i64 a2] w fun e w' => ∃ v0_ : Value, e = .returned (.tuple #[v0_, .int .i64 r2]) ∧ Kd.R (Kd.int .i64) 2 w' w.heap.size (fun _ => True) v0_ r1 ∧ Below w.heap.size w w' := by
 have hu29 := Try.underlying29
 have HR0_1 := Aside0.mk hr0_1
 have HC0_1 := Aside0.mk hc0_1
 clear hr0_1 hc0_1
 have HR0_2 := Aside0.mk hr0_2
 have HC0_2 := Aside0.mk hc0_2
 clear hr0_2 hc0_2
 have HR1_1 := Aside0.mk hr1_1
 have HC1_1 := Aside0.mk hc1_1
 clear hr1_1 hc1_1
 have HR1_2 := Aside0.mk hr1_2
 have HC1_2 := Aside0.mk hc1_2
 clear hr1_2 hc1_2
 have HB := Aside0.mk (Below.refl w.heap.size w)
 have H : ((impl_IsJacobi.f k a0_0 l0_1 l0_2).bind fun t673 => (if t673 = true then ((impl_IsJacobi.f k a1_0 l1_1 l1_2).bind fun t674 => (impl_ConnectJacobi.j0 k a2 (!t674) a0_0 l0_1 l0_2 a1_0 l1_1 l1_2)) else (impl_ConnectJacobi.j0 k a2 true a0_0 l0_1 l0_2 a1_0 l1_1 l1_2))) = some (r1, r2) := h
 clear h
 have HC4 := Aside0.mk H
 clear H
 go_enter Try.func33, Try.ntmps33
 go_upto_region 1 with (first | ((with_reducible refine gate_dst (N := 3) rfl ?_); (try (refine gate_guard (by rfl) ?_; dsimp only)); refine box_event ?hg (N := 3) ?hd (cs := #[.int .i64 a0_0, .slice A0_1 l0_1.length c0_1, .slice A0_2 l0_2.length c0_2]) (t := 29) ?hr ?_; (case hd => rfl); (case hg => rfl); (case hr => first | (go_simp; done) | (go_simp; rfl)); intro gb671 hg w5 hbox hb; have n0_ := Aside0.mk (below_step ZB hb); have n1_ := Aside0.mk (hbox); have n2_ := Aside0.mk ((ZG hg : w.heap.size ≤ gb671)); have n3_ := Aside0.mk ((ZG hg : w.heap.size ≤ gb671)); clear HB; have HB := n0_; have BK671 := n1_; have GW671 := n2_; have GE671 := n3_; clear n0_ n1_ n2_ n3_; clear hb hbox hg) | ((with_reducible refine gate_dst (N := 4) rfl ?_); (try (refine gate_guard (by rfl) ?_; dsimp only)); refine box_event ?hg (N := 4) ?hd (cs := #[.int .i64 a1_0, .slice A1_1 l1_1.length c1_1, .slice A1_2 l1_2.length c1_2]) (t := 29) ?hr ?_; (case hd => rfl); (case hg => rfl); (case hr => first | (go_simp; done) | (go_simp; rfl)); intro gb672 hg w6 hbox hb; have n0_ := ZL BK671 hb; have n1_ := Aside0.mk (below_step ZB hb); have n2_ := Aside0.mk (hbox); have n3_ := Aside0.mk ((ZG hg : w.heap.size ≤ gb672)); have n4_ := Aside0.mk ((ZG hg : w.heap.size ≤ gb672)); have n5_ := Aside0.mk ((ZN hg BK671 : gb671 ≠ gb672)); have n6_ := Aside0.mk ((ZM hg BK671 : gb672 ≠ gb671)); clear BK671; clear HB; have BK671 := n0_; have HB := n1_; have BK672 := n2_; have GW672 := n3_; have GE672 := n4_; have NB671_672 := n5_; have NB672_671 := n6_; clear n0_ n1_ n2_ n3_ n4_ n5_ n6_; clear hb hbox hg))
 (try simp only [Act.put, List.setIfInBounds_toArray, List.set_cons_zero, List.set_cons_succ])
 go_cut [8] (fun v8 wc => ∃ (kq : Nat) (x8_3 : Bool), v8 = .bool x8_3 ∧ Aside0 (impl_ConnectJacobi.j0 kq a2 x8_3 a0_0 l0_1 l0_2 a1_0 l1_1 l1_2 = some (r1, r2)) ∧ Aside0 (kq ≤ k) ∧ Aside0 (wc.heap[gb671]? = some (.cells #[.int .i64 a0_0, (.slice A0_1 l0_1.length c0_1), (.slice A0_2 l0_2.length c0_2)] 29 (0, 0))) ∧ Aside0 (wc.heap[gb672]? = some (.cells #[.int .i64 a1_0, (.slice A1_1 l1_1.length c1_1), (.slice A1_2 l1_2.length c1_2)] 29 (0, 0))) ∧ Aside0 (Below w.heap.size w wc))
 case first =>
  have H := HC4.out
  clear HC4
  replace H := Option.bind_eq_some_iff.mp H
  obtain ⟨t673, A70, H⟩ := H
  replace H : (if t673 = true then ((impl_IsJacobi.f k a1_0 l1_1 l1_2).bind fun t674 => (impl_ConnectJacobi.j0 k a2 (!t674) a0_0 l0_1 l0_2 a1_0 l1_1 l1_2)) else (impl_ConnectJacobi.j0 k a2 true a0_0 l0_1 l0_2 a1_0 l1_1 l1_2)) = some (r1, r2) := H
  have A7 := Aside0.mk A70
  clear A70
  by_cases c8 : t673 = true
  ·subst c8
   have H1 : ((impl_IsJacobi.f k a1_0 l1_1 l1_2).bind fun t674 => (impl_ConnectJacobi.j0 k a2 (!t674) a0_0 l0_1 l0_2 a1_0 l1_1 l1_2)) = some (r1, r2) := by rw [if_pos rfl] at H; exact H
   clear H
   have H := H1
   clear H1
   replace H := Option.bind_eq_some_iff.mp H
   obtain ⟨t674, A90, H⟩ := H
   replace H : (impl_ConnectJacobi.j0 k a2 (!t674) a0_0 l0_1 l0_2 a1_0 l1_1 l1_2) = some (r1, r2) := H
   have A9 := Aside0.mk A90
   clear A90
   have H' := Aside0.mk H
   clear H
   have hnb10 := NB671_672.out
   have hnc10 := NB672_671.out
   obtain ⟨hcz11_0, hcz11_1, hcz11_2, hfz11_0, hfz11_1, hfz11_2⟩ := ZD3 BK671
   go_wp2_with (first | ((with_reducible refine gate_callee (f := 69) rfl ?_); refine goesL_ (some 10) rfl rfl Try.func69 (by kernel_rfl) rfl #[.agg #[.int .i64 a0_0, .slice A0_1 l0_1.length c0_1, .slice A0_2 l0_2.length c0_2]] rfl ZA ?_; (with_reducible refine (impl_IsJacobi.calls k a0_0 _ _ l0_1 _ _ l0_2 true _ ?side1 ?side2 ?side3 ?side4 A7.out).mono ?_); (case side1 => exact ZC HR0_1); (case side2 => exact HC0_1.out); (case side3 => exact ZC HR0_2); (case side4 => exact HC0_2.out); rintro e w12 ⟨rfl, hb⟩; refine ⟨_, rfl, ?_⟩; have n0_ := ZL BK671 hb; have n1_ := ZL BK672 hb; have n2_ := Aside0.mk (below_step ZB hb); clear BK671; clear BK672; clear HB; have BK671 := n0_; have BK672 := n1_; have HB := n2_; clear n0_ n1_ n2_; (try clear hb); (try clear hb2); (try clear hk); (try clear hi); obtain ⟨hcz13_0, hcz13_1, hcz13_2, hfz13_0, hfz13_1, hfz13_2⟩ := ZD3 BK672) | (go_at_call 69; (with_reducible refine (impl_IsJacobi.calls k a1_0 _ _ l1_1 _ _ l1_2 t674 _ ?side1 ?side2 ?side3 ?side4 A9.out).mono ?_); (case side1 => exact ZC HR1_1); (case side2 => exact HC1_1.out); (case side3 => exact ZC HR1_2); (case side4 => exact HC1_2.out); rintro e w14 ⟨rfl, hb⟩; have n0_ := ZL BK671 hb; have n1_ := ZL BK672 hb; have n2_ := Aside0.mk (below_step ZB hb); clear BK671; clear BK672; clear HB; have BK671 := n0_; have BK672 := n1_; have HB := n2_; clear n0_ n1_ n2_; (try clear hb); (try clear hb2); (try clear hk); (try clear hi)))
   go_meet
   case rel => exact ⟨_, (!t674), (by first | rfl | (simp; done) | (simp [*]; done)), H', ⟨by first | omega | exact Nat.le_refl _⟩, ⟨ZK BK671⟩, ⟨ZK BK672⟩, ⟨ZB⟩⟩
  ·replace c8 := Bool.eq_false_iff.mpr c8
   subst c8
   have H1 : (impl_ConnectJacobi.j0 k a2 true a0_0 l0_1 l0_2 a1_0 l1_1 l1_2) = some (r1, r2) := by rw [if_neg (show ¬ (false = true) by decide)] at H; exact H
   clear H
   have H := H1
   clear H1
   have H' := Aside0.mk H
   clear H
   have hnb15 := NB671_672.out
   have hnc15 := NB672_671.out
   obtain ⟨hcz16_0, hcz16_1, hcz16_2, hfz16_0, hfz16_1, hfz16_2⟩ := ZD3 BK671
   go_wp2_with (first | ((with_reducible refine gate_callee (f := 69) rfl ?_); refine goesL_ (some 10) rfl rfl Try.func69 (by kernel_rfl) rfl #[.agg #[.int .i64 a0_0, .slice A0_1 l0_1.length c0_1, .slice A0_2 l0_2.length c0_2]] rfl ZA ?_; (with_reducible refine (impl_IsJacobi.calls k a0_0 _ _ l0_1 _ _ l0_2 false _ ?side1 ?side2 ?side3 ?side4 A7.out).mono ?_); (case side1 => exact ZC HR0_1); (case side2 => exact HC0_1.out); (case side3 => exact ZC HR0_2); (case side4 => exact HC0_2.out); rintro e w17 ⟨rfl, hb⟩; refine ⟨_, rfl, ?_⟩; have n0_ := ZL BK671 hb; have n1_ := ZL BK672 hb; have n2_ := Aside0.mk (below_step ZB hb); clear BK671; clear BK672; clear HB; have BK671 := n0_; have BK672 := n1_; have HB := n2_; clear n0_ n1_ n2_; (try clear hb); (try clear hb2); (try clear hk); (try clear hi)))
   go_meet
   case rel => exact ⟨_, (true), (by first | rfl | (simp; done) | (simp [*]; done)), H', ⟨by first | omega | exact Nat.le_refl _⟩, ⟨ZK BK671⟩, ⟨ZK BK672⟩, ⟨ZB⟩⟩
 case rest =>
  clear HC4
  try clear c1
  try clear p2
  try clear c3
  try clear c6
  try clear c8
  try clear c10
  try clear c15
  try clear hcz11_0
  try clear hcz11_1
  try clear hcz11_2
  try clear hcz13_0
  try clear hcz13_1
  try clear hcz13_2
  try clear hcz16_0
  try clear hcz16_1
  try clear hcz16_2
  try clear hfz11_0
  try clear hfz11_1
  try clear hfz11_2
  try clear hfz13_0
  try clear hfz13_1
  try clear hfz13_2
  try clear hfz16_0
  try clear hfz16_1
  try clear hfz16_2
  obtain ⟨kq, x8_3, rfl, HA, HJ3, BK671, BK672, HB⟩ := hcut
  cases kq with
  | zero => exact absurd HA.out (by simp [impl_ConnectJacobi.j0])
  | succ kj3 =>
   have H := HA.out
   clear HA
   simp only [impl_ConnectJacobi.j0] at H
   by_cases c18 : x8_3 = true
   ·subst c18
    have H1 : (some (([] : List Int), 1)) = some (r1, r2) := by rw [if_pos rfl] at H; exact H
    clear H
    have H := H1
    clear H1
    simp only [Option.some.injEq, Prod.mk.injEq] at H
    obtain ⟨rfl, rfl⟩ := H
    go_wp2
    go_ret2
    exact ⟨_, by first | rfl | (simp [errW_none, errW_some] <;> rfl) | (simp [*, errW_none, errW_some] <;> rfl), by first | exact Kd.R_nil _ _ _ _ _ | exact Kd.N_nil _ _ _ _ _ | exact Kd.V_nil _ _ _ _ _ | exact Kd.Q_nil _ _ _ _ _ | exact Kd.S_nil _ _ _ _ _, ZB⟩
   ·replace c18 := Bool.eq_false_iff.mpr c18
    subst c18
    have H1 : (if a0_0 = a1_0 then ((impl_Jacobi_size.f a0_0 l0_1 l0_2).bind fun t675 => ((impl_Jacobi_size.f a1_0 l1_1 l1_2).bind fun t676 => ((impl_within.f a2 0 (mn t675 t676)).bind fun t677 => (if t677 = true then ((impl_Jacobi_field.f a0_0 l0_1 l0_2).bind fun t678 => ((impl_Jacobi_polys.f kj3 a0_0 l0_1 l0_2).bind fun t679 => (if 0 ≤ a2 then (if a2 < (t679.length : Int) then ((impl_Jacobi_polys.f kj3 a1_0 l1_1 l1_2).bind fun t683 => ((impl_field_expand.f kj3 t678 (rd_L1 t679 a2) t683).bind fun t686 => (some (t686, 0)))) else (none)) else (none)))) else (some (([] : List Int), 2)))))) else (some (([] : List Int), 2))) = some (r1, r2) := by rw [if_neg (show ¬ (false = true) by decide)] at H; exact H
    clear H
    have H := H1
    clear H1
    by_cases c19 : a0_0 = a1_0
    ·rw [if_pos c19] at H
     have c19b0 : (a0_0 == a1_0) = true := beq_iff_eq.mpr c19
     have c19b1 : (a0_0 != a1_0) = false := bne_eq_false_iff_eq.mpr c19
     clear c19
     replace H := Option.bind_eq_some_iff.mp H
     obtain ⟨t675, A200, H⟩ := H
     replace H : ((impl_Jacobi_size.f a1_0 l1_1 l1_2).bind fun t676 => ((impl_within.f a2 0 (mn t675 t676)).bind fun t677 => (if t677 = true then ((impl_Jacobi_field.f a0_0 l0_1 l0_2).bind fun t678 => ((impl_Jacobi_polys.f kj3 a0_0 l0_1 l0_2).bind fun t679 => (if 0 ≤ a2 then (if a2 < (t679.length : Int) then ((impl_Jacobi_polys.f kj3 a1_0 l1_1 l1_2).bind fun t683 => ((impl_field_expand.f kj3 t678 (rd_L1 t679 a2) t683).bind fun t686 => (some (t686, 0)))) else (none)) else (none)))) else (some (([] : List Int), 2))))) = some (r1, r2) := H
     have A20 := Aside0.mk A200
     clear A200
     replace H := Option.bind_eq_some_iff.mp H
     obtain ⟨t676, A210, H⟩ := H
     replace H : ((impl_within.f a2 0 (mn t675 t676)).bind fun t677 => (if t677 = true then ((impl_Jacobi_field.f a0_0 l0_1 l0_2).bind fun t678 => ((impl_Jacobi_polys.f kj3 a0_0 l0_1 l0_2).bind fun t679 => (if 0 ≤ a2 then (if a2 < (t679.length : Int) then ((impl_Jacobi_polys.f kj3 a1_0 l1_1 l1_2).bind fun t683 => ((impl_field_expand.f kj3 t678 (rd_L1 t679 a2) t683).bind fun t686 => (some (t686, 0)))) else (none)) else (none)))) else (some (([] : List Int), 2)))) = some (r1, r2) := H
     have A21 := Aside0.mk A210
     clear A210
     obtain ⟨ji22, hji22⟩ : ∃ j_ : Int, (mn t675 t676) = j_ := ⟨_, rfl⟩
     replace H : ((impl_within.f a2 0 (ji22)).bind fun t677 => (if t677 = true then ((impl_Jacobi_field.f a0_0 l0_1 l0_2).bind fun t678 => ((impl_Jacobi_polys.f kj3 a0_0 l0_1 l0_2).bind fun t679 => (if 0 ≤ a2 then (if a2 < (t679.length : Int) then ((impl_Jacobi_polys.f kj3 a1_0 l1_1 l1_2).bind fun t683 => ((impl_field_expand.f kj3 t678 (rd_L1 t679 a2) t683).bind fun t686 => (some (t686, 0)))) else (none)) else (none)))) else (some (([] : List Int), 2)))) = some (r1, r2) := by first | (rw [hji22] at H; exact H) | (simp only [hji22] at H ⊢; exact H)
     (try rw [hji22] at A20)
     (try rw [hji22] at A21)
     have hji22_ : (if t676 < t675 then t676 else t675) = ji22 := hji22
     replace H := Option.bind_eq_some_iff.mp H
     obtain ⟨t677, A230, H⟩ := H
     replace H : (if t677 = true then ((impl_Jacobi_field.f a0_0 l0_1 l0_2).bind fun t678 => ((impl_Jacobi_polys.f kj3 a0_0 l0_1 l0_2).bind fun t679 => (if 0 ≤ a2 then (if a2 < (t679.length : Int) then ((impl_Jacobi_polys.f kj3 a1_0 l1_1 l1_2).bind fun t683 => ((impl_field_expand.f kj3 t678 (rd_L1 t679 a2) t683).bind fun t686 => (some (t686, 0)))) else (none)) else (none)))) else (some (([] : List Int), 2))) = some (r1, r2) := H
     have A23 := Aside0.mk A230
     clear A230
     by_cases c24 : t677 = true
     ·subst c24
      have H1 : ((impl_Jacobi_field.f a0_0 l0_1 l0_2).bind fun t678 => ((impl_Jacobi_polys.f kj3 a0_0 l0_1 l0_2).bind fun t679 => (if 0 ≤ a2 then (if a2 < (t679.length : Int) then ((impl_Jacobi_polys.f kj3 a1_0 l1_1 l1_2).bind fun t683 => ((impl_field_expand.f kj3 t678 (rd_L1 t679 a2) t683).bind fun t686 => (some (t686, 0)))) else (none)) else (none)))) = some (r1, r2) := by rw [if_pos rfl] at H; exact H
      clear H
      have H := H1
      clear H1
      replace H := Option.bind_eq_some_iff.mp H
      obtain ⟨t678, A250, H⟩ := H
      replace H : ((impl_Jacobi_polys.f kj3 a0_0 l0_1 l0_2).bind fun t679 => (if 0 ≤ a2 then (if a2 < (t679.length : Int) then ((impl_Jacobi_polys.f kj3 a1_0 l1_1 l1_2).bind fun t683 => ((impl_field_expand.f kj3 t678 (rd_L1 t679 a2) t683).bind fun t686 => (some (t686, 0)))) else (none)) else (none))) = some (r1, r2) := H
      have A25 := Aside0.mk A250
      clear A250
      replace H := Option.bind_eq_some_iff.mp H
      obtain ⟨t679, A260, H⟩ := H
      replace H : (if 0 ≤ a2 then (if a2 < (t679.length : Int) then ((impl_Jacobi_polys.f kj3 a1_0 l1_1 l1_2).bind fun t683 => ((impl_field_expand.f kj3 t678 (rd_L1 t679 a2) t683).bind fun t686 => (some (t686, 0)))) else (none)) else (none)) = some (r1, r2) := H
      have A26 := Aside0.mk A260
      clear A260
      by_cases c27 : 0 ≤ a2
      ·rw [if_pos c27] at H
       have c27b0 : decide (0 ≤ a2) = true := decide_eq_true c27
       clear c27
       by_cases c28 : a2 < (t679.length : Int)
       ·rw [if_pos c28] at H
        have c28b0 : decide (a2 < (t679.length : Int)) = true := decide_eq_true c28
        clear c28
        replace H := Option.bind_eq_some_iff.mp H
        obtain ⟨t683, A290, H⟩ := H
        replace H : ((impl_field_expand.f kj3 t678 (rd_L1 t679 a2) t683).bind fun t686 => (some (t686, 0))) = some (r1, r2) := H
        have A29 := Aside0.mk A290
        clear A290
        replace H := Option.bind_eq_some_iff.mp H
        obtain ⟨t686, A300, H⟩ := H
        replace H : (some (t686, 0)) = some (r1, r2) := H
        have A30 := Aside0.mk A300
        clear A300
        simp only [Option.some.injEq, Prod.mk.injEq] at H
        obtain ⟨rfl, rfl⟩ := H
        try go_wp2
        have n0_ := Aside0.mk (blk_drew BK671.out)
        have n1_ := Aside0.mk (blk_drew BK672.out)
        have n2_ := Aside0.mk (below_drew1 HB.out)
        clear BK671
        clear BK672
        clear HB
        have BK671 := n0_
        have BK672 := n1_
        have HB := n2_
        clear n0_ n1_ n2_
        refine start_ (n := 16) (S := fun w' => w'.cell? ⟨gb671, 0, none⟩ = some (.int .i64 a0_0) ∧ w'.cell? ⟨gb671, 1, none⟩ = some (.slice A0_1 l0_1.length c0_1) ∧ w'.cell? ⟨gb671, 2, none⟩ = some (.slice A0_2 l0_2.length c0_2) ∧ w'.cell? ⟨gb672, 0, none⟩ = some (.int .i64 a1_0) ∧ w'.cell? ⟨gb672, 1, none⟩ = some (.slice A1_1 l1_1.length c1_1) ∧ w'.cell? ⟨gb672, 2, none⟩ = some (.slice A1_2 l1_2.length c1_2)) (ds := []) #[false, false, false, false, false, false, false, false, false, false, false, false, false, false, false, false] (by kernel_rfl) rfl rfl ⟨(blk_cell BK671.out 0).trans rfl, (blk_cell BK671.out 1).trans rfl, (blk_cell BK671.out 2).trans rfl, (blk_cell BK672.out 0).trans rfl, (blk_cell BK672.out 1).trans rfl, (blk_cell BK672.out 2).trans rfl⟩ (fun hHeld => ?_); refine with_tabW impl_ConnectJacobi.tab3 impl_ConnectJacobi.bits3 (fun HT_ HW_ => ?_)
        generalize wc.drew = w31 at BK671 BK672 HB hHeld ⊢
        refine Zpt 0 (some 18) (h := ?_)
        refine Zpt 2 (some 20) (h := ?_)
        refine ZtW6 1 (some 19) hHeld (h := ?_)
        refine ZtW6 3 (some 21) hHeld (h := ?_)
        refine Zpt 4 (some 22) (h := ?_)
        refine Zpt 5 (some 23) (h := ?_)
        refine Zpt 6 (some 24) (h := ?_)
        refine ZtW6 7 (some 25) hHeld (h := ?_)
        refine ZtW6 9 (some 27) hHeld (h := ?_)
        refine one_ (i := 8) (N := some 26) #[true, true, true, true, true, true, true, true, true, true, false, false, false, false, false, false] rfl rfl (one_of HT_.out (by kernel_rfl)) (by decide) (fun K hK => ?_)
        refine goes_ Try.func59 (by kernel_rfl) rfl #[.agg #[.int .i64 a0_0, .slice A0_1 l0_1.length c0_1, .slice A0_2 l0_2.length c0_2]] (by rfl) rfl rfl ZA ?_
        with_reducible refine (impl_Jacobi_size.calls a0_0 _ _ l0_1 _ _ l0_2 t675 _ ?side1 ?side2 ?side3 ?side4 A20.out).mono ?_
        (case side1 => exact ZC HR0_1)
        (case side2 => exact HC0_1.out)
        (case side3 => exact ZC HR0_2)
        (case side4 => exact HC0_2.out)
        rintro e w32 ⟨rfl, hb⟩
        refine ⟨_, rfl, ?_⟩
        have n0_ := ZL BK671 hb
        have n1_ := ZL BK672 hb
        have n2_ := Aside0.mk (below_step ZB hb)
        clear BK671
        clear BK672
        clear HB
        have BK671 := n0_
        have BK672 := n1_
        have HB := n2_
        clear n0_ n1_ n2_
        (try clear hb)
        (try clear hb2)
        (try clear hk)
        (try clear hi)
        refine hK.out _ _ ⟨(blk_cell BK671.out 0).trans rfl, (blk_cell BK671.out 1).trans rfl, (blk_cell BK671.out 2).trans rfl, (blk_cell BK672.out 0).trans rfl, (blk_cell BK672.out 1).trans rfl, (blk_cell BK672.out 2).trans rfl⟩ (fun hHeld => ?_)
        clear hK K
        refine norm_ (a' := ?_) ?_ ?_
        rotate_left
        ·show Act.put _ (some 26) _ = _
         simp only [Act.put, List.setIfInBounds_toArray, List.set_cons_zero, List.set_cons_succ, i64_w, i32_w]
         rfl
        refine one_ (i := 10) (N := some 28) #[true, true, true, true, true, true, true, true, true, true, true, false, false, false, false, false] rfl rfl (one_of HT_.out (by kernel_rfl)) (by decide) (fun K hK => ?_)
        refine goes_ Try.func59 (by kernel_rfl) rfl #[.agg #[.int .i64 a1_0, .slice A1_1 l1_1.length c1_1, .slice A1_2 l1_2.length c1_2]] (by rfl) rfl rfl ZA ?_
        with_reducible refine (impl_Jacobi_size.calls a1_0 _ _ l1_1 _ _ l1_2 t676 _ ?side1 ?side2 ?side3 ?side4 A21.out).mono ?_
        (case side1 => exact ZC HR1_1)
        (case side2 => exact HC1_1.out)
        (case side3 => exact ZC HR1_2)
        (case side4 => exact HC1_2.out)
        rintro e w33 ⟨rfl, hb⟩
        refine ⟨_, rfl, ?_⟩
        have n0_ := ZL BK671 hb
        have n1_ := ZL BK672 hb
        have n2_ := Aside0.mk (below_step ZB hb)
        clear BK671
        clear BK672
        clear HB
        have BK671 := n0_
        have BK672 := n1_
        have HB := n2_
        clear n0_ n1_ n2_
        (try clear hb)
        (try clear hb2)
        (try clear hk)
        (try clear hi)
        refine hK.out _ _ ⟨(blk_cell BK671.out 0).trans rfl, (blk_cell BK671.out 1).trans rfl, (blk_cell BK671.out 2).trans rfl, (blk_cell BK672.out 0).trans rfl, (blk_cell BK672.out 1).trans rfl, (blk_cell BK672.out 2).trans rfl⟩ (fun hHeld => ?_)
        clear hK K
        refine norm_ (a' := ?_) ?_ ?_
        rotate_left
        ·show Act.put _ (some 28) _ = _
         simp only [Act.put, List.setIfInBounds_toArray, List.set_cons_zero, List.set_cons_succ, i64_w, i32_w]
         rfl
        refine Zpt 11 (some 29) (h := ?_)
        refine one_ (i := 12) (N := some 30) #[true, true, true, true, true, true, true, true, true, true, true, true, true, false, false, false] rfl rfl (one_of HT_.out (by kernel_rfl)) (by decide) (fun K hK => ?_)
        refine goes_ Try.func76 (by kernel_rfl) rfl #[.int .i64 a2, .int .i64 0, .int .i64 ji22] (by rfl) rfl rfl (by (try simp only [List.map_toArray, List.map_cons, List.map_nil]); first | done | (simp only [hji22]; rfl) | rfl | (simp only [List.length_drop, List.length_take]; rfl)) ?_
        with_reducible refine (impl_within.calls a2 0 ji22 true _ A23.out).mono ?_
        rintro e w' ⟨rfl, ⟨nd, rfl⟩⟩
        refine ⟨_, rfl, ?_⟩
        refine hK.out _ _ ⟨(blk_cell BK671.out 0).trans rfl, (blk_cell BK671.out 1).trans rfl, (blk_cell BK671.out 2).trans rfl, (blk_cell BK672.out 0).trans rfl, (blk_cell BK672.out 1).trans rfl, (blk_cell BK672.out 2).trans rfl⟩ (fun hHeld => ?_)
        clear hK K
        refine norm_ (a' := ?_) ?_ ?_
        rotate_left
        ·show Act.put _ (some 30) _ = _
         simp only [Act.put, List.setIfInBounds_toArray, List.set_cons_zero, List.set_cons_succ, i64_w, i32_w]
         rfl
        refine Zpt 13 (some 31) (h := ?_)
        refine Zpt 14 (some 32) (h := ?_)
        refine Zpt 15 (some 17) (h := ?_)
        refine done_ (done_of HT_.out (by kernel_rfl)) ?_
        try go_wp2
        (try (rw [drewN_self w33]; generalize hq_ : World.drewN w33 _ = w33; have n0_ : Aside0 (w33.heap[gb671]? = some (.cells #[.int .i64 a0_0, .slice A0_1 l0_1.length c0_1, .slice A0_2 l0_2.length c0_2] 29 (0, 0))) := ⟨by rw [← hq_]; exact (ZK BK671)⟩; have n1_ : Aside0 (w33.heap[gb672]? = some (.cells #[.int .i64 a1_0, .slice A1_1 l1_1.length c1_1, .slice A1_2 l1_2.length c1_2] 29 (0, 0))) := ⟨by rw [← hq_]; exact (ZK BK672)⟩; have n2_ : Aside0 (Below w.heap.size w w33) := ⟨by rw [← hq_]; exact ZB⟩; clear BK671 BK672 HB hq_; have BK671 := n0_; have BK672 := n1_; have HB := n2_; clear n0_ n1_ n2_))
        (try (obtain ⟨hcy671_0, hcy671_1, hcy671_2, hfy671_0, hfy671_1, hfy671_2⟩ := ZD3 BK671))
        (try (obtain ⟨hcy672_0, hcy672_1, hcy672_2, hfy672_0, hfy672_1, hfy672_2⟩ := ZD3 BK672))
        have n0_ := Aside0.mk (blk_drew BK671.out)
        have n1_ := Aside0.mk (blk_drew BK672.out)
        have n2_ := Aside0.mk (below_drew1 HB.out)
        clear BK671
        clear BK672
        clear HB
        have BK671 := n0_
        have BK672 := n1_
        have HB := n2_
        clear n0_ n1_ n2_
        refine start_ (n := 12) (S := fun w' => w'.cell? ⟨gb671, 0, none⟩ = some (.int .i64 a0_0) ∧ w'.cell? ⟨gb671, 1, none⟩ = some (.slice A0_1 l0_1.length c0_1) ∧ w'.cell? ⟨gb671, 2, none⟩ = some (.slice A0_2 l0_2.length c0_2) ∧ w'.cell? ⟨gb672, 0, none⟩ = some (.int .i64 a1_0) ∧ w'.cell? ⟨gb672, 1, none⟩ = some (.slice A1_1 l1_1.length c1_1) ∧ w'.cell? ⟨gb672, 2, none⟩ = some (.slice A1_2 l1_2.length c1_2)) (ds := []) #[false, false, false, false, false, false, false, false, false, false, false, false] (by kernel_rfl) rfl rfl ⟨(blk_cell BK671.out 0).trans rfl, (blk_cell BK671.out 1).trans rfl, (blk_cell BK671.out 2).trans rfl, (blk_cell BK672.out 0).trans rfl, (blk_cell BK672.out 1).trans rfl, (blk_cell BK672.out 2).trans rfl⟩ (fun hHeld => ?_); refine with_tabW impl_ConnectJacobi.tab5 impl_ConnectJacobi.bits5 (fun HT_ HW_ => ?_)
        generalize w33.drew = w34 at BK671 BK672 HB hHeld ⊢
        refine Zpt 4 (some 37) (h := ?_)
        refine ZtW6 0 (some 33) hHeld (h := ?_)
        refine ZtW6 2 (some 35) hHeld (h := ?_)
        refine ZtW6 7 (some 40) hHeld (h := ?_)
        refine one_ (i := 1) (N := some 34) #[true, true, true, false, true, false, false, true, false, false, false, false] rfl rfl (one_of HT_.out (by kernel_rfl)) (by decide) (fun K hK => ?_)
        refine goes_ Try.func64 (by kernel_rfl) rfl #[.agg #[.int .i64 a0_0, .slice A0_1 l0_1.length c0_1, .slice A0_2 l0_2.length c0_2]] (by rfl) rfl rfl ZA ?_
        with_reducible refine (impl_Jacobi_field.calls a0_0 _ _ l0_1 _ _ l0_2 t678 _ ?side1 ?side2 ?side3 ?side4 A25.out).mono ?_
        (case side1 => exact ZC HR0_1)
        (case side2 => exact HC0_1.out)
        (case side3 => exact ZC HR0_2)
        (case side4 => exact HC0_2.out)
        rintro e w35 ⟨rfl, hb⟩
        refine ⟨_, rfl, ?_⟩
        have n0_ := ZL BK671 hb
        have n1_ := ZL BK672 hb
        have n2_ := Aside0.mk (below_step ZB hb)
        clear BK671
        clear BK672
        clear HB
        have BK671 := n0_
        have BK672 := n1_
        have HB := n2_
        clear n0_ n1_ n2_
        (try clear hb)
        (try clear hb2)
        (try clear hk)
        (try clear hi)
        refine hK.out _ _ ⟨(blk_cell BK671.out 0).trans rfl, (blk_cell BK671.out 1).trans rfl, (blk_cell BK671.out 2).trans rfl, (blk_cell BK672.out 0).trans rfl, (blk_cell BK672.out 1).trans rfl, (blk_cell BK672.out 2).trans rfl⟩ (fun hHeld => ?_)
        clear hK K
        refine norm_ (a' := ?_) ?_ ?_
        rotate_left
        ·show Act.put _ (some 34) _ = _
         simp only [Act.put, List.setIfInBounds_toArray, List.set_cons_zero, List.set_cons_succ, i64_w, i32_w]
         rfl
        refine one_ (i := 3) (N := some 36) #[true, true, true, true, true, false, false, true, false, false, false, false] rfl rfl (one_of HT_.out (by kernel_rfl)) (by decide) (fun K hK => ?_)
        refine goes_ Try.func73 (by kernel_rfl) rfl #[.agg #[.int .i64 a0_0, .slice A0_1 l0_1.length c0_1, .slice A0_2 l0_2.length c0_2]] (by rfl) rfl rfl ZA ?_
        with_reducible refine (impl_Jacobi_polys.calls kj3 a0_0 _ _ l0_1 _ _ l0_2 t679 _ ?side1 ?side2 ?side3 ?side4 A26.out).mono ?_
        (case side1 => exact ZC HR0_1)
        (case side2 => exact HC0_1.out)
        (case side3 => exact ZC HR0_2)
        (case side4 => exact HC0_2.out)
        rintro e w36 ⟨v680, rfl, ho0, hb⟩
        refine ⟨_, rfl, ?_⟩
        have n0_ := Aside0.mk (Kd.N_lower (Kd.N_mono (ok' := fun k_ => k_ ≠ gb671 ∧ k_ ≠ gb672) ho0 (fun k_ hk_ => ⟨(Kd.freshB (ZK BK671) k_ hk_), (Kd.freshB (ZK BK672) k_ hk_)⟩)) (below_size ZB))
        have n1_ := ZL BK671 hb
        have n2_ := ZL BK672 hb
        have n3_ := Aside0.mk (below_step ZB hb)
        clear BK671
        clear BK672
        clear HB
        have HO681 := n0_
        have BK671 := n1_
        have BK672 := n2_
        have HB := n3_
        clear n0_ n1_ n2_ n3_
        (try clear hb)
        (try clear hb2)
        (try clear hk)
        (try clear hi)
        (try clear ho0)
        obtain ⟨Ao37, co37, eo37⟩ := Kd.N_slice HO681.out
        (first | subst eo37 | (injection eo37 with f1_ f2_ f3_; have f4_ := f1_.symm; have f5_ := f3_.symm; clear f1_ f2_ f3_; subst f4_; subst f5_))
        have p682 : 0 ≤ (a2 : Int) := of_decide_eq_true (by first | (with_reducible assumption) | assumption)
        have q682 : a2 < (t679.length : Int) := of_decide_eq_true (by first | (with_reducible assumption) | assumption)
        obtain ⟨ad682, A682_0, c682_0, e682, hx682_0, hl682_0, hi682_0⟩ := at_L1 (Kd.N_reads' HO681.out).2.2 a2 p682 q682
        cases e682
        obtain ⟨ce682, hce682, hMe682, hcc682⟩ := Kd.N_get HO681.out [] a2 p682 (by first | exact q682 | exact of_decide_eq_true (by first | (with_reducible assumption) | assumption) | (have e_ := (Kd.N_reads' HO681.out).1; omega))
        obtain ⟨ua682_0, uc682_0, rfl, ul682_0, ge682_0⟩ := Kd.FK_slice_open hMe682
        have hv682_0 := hcc682 0 _ rfl
        rw [Nat.add_zero, show ((Kd.slice 2 (Kd.int .i64))).sz = 1 from rfl, Nat.mul_one] at hv682_0
        replace hv682_0 := Option.some.inj (hv682_0.symm.trans hx682_0)
        injection hv682_0 with hva_ hvn_ hvc_
        rw [hva_] at ge682_0
        rw [hvc_] at ul682_0
        have HL682_0 := Aside0.mk (show Kd.V (Kd.int .i64) 2 _ w.heap.size _ _ (rd_L1 t679 a2) from Kd.V_mk ul682_0 ge682_0)
        clear hva_ hvn_ hvc_ ge682_0 ul682_0
        clear hcc682 hce682
        have HR682_0 := Aside0.mk hi682_0
        have HC682_0 := Aside0.mk hl682_0
        clear hi682_0 hl682_0
        replace p682 := eq_true p682
        replace q682 := eq_true q682
        refine hK.out _ _ ⟨(blk_cell BK671.out 0).trans rfl, (blk_cell BK671.out 1).trans rfl, (blk_cell BK671.out 2).trans rfl, (blk_cell BK672.out 0).trans rfl, (blk_cell BK672.out 1).trans rfl, (blk_cell BK672.out 2).trans rfl⟩ (fun hHeld => ?_)
        refine sharper_ (S' := fun w' => w'.cell? ⟨gb671, 0, none⟩ = some (.int .i64 a0_0) ∧ w'.cell? ⟨gb671, 1, none⟩ = some (.slice A0_1 l0_1.length c0_1) ∧ w'.cell? ⟨gb671, 2, none⟩ = some (.slice A0_2 l0_2.length c0_2) ∧ w'.cell? ⟨gb672, 0, none⟩ = some (.int .i64 a1_0) ∧ w'.cell? ⟨gb672, 1, none⟩ = some (.slice A1_1 l1_1.length c1_1) ∧ w'.cell? ⟨gb672, 2, none⟩ = some (.slice A1_2 l1_2.length c1_2) ∧ w'.cell? (ad682.add (a2).toNat) = some (.slice A682_0 (rd_L1 t679 a2).length c682_0)) ⟨(blk_cell BK671.out 0).trans rfl, (blk_cell BK671.out 1).trans rfl, (blk_cell BK671.out 2).trans rfl, (blk_cell BK672.out 0).trans rfl, (blk_cell BK672.out 1).trans rfl, (blk_cell BK672.out 2).trans rfl, hx682_0⟩ (by rintro w' ⟨s0, s1, s2, s3, s4, s5, s6⟩; exact ⟨s0, s1, s2, s3, s4, s5⟩) (fun hHeld => ?_)
        clear hK K
        refine norm_ (a' := ?_) ?_ ?_
        rotate_left
        ·show Act.put _ (some 36) _ = _
         simp only [Act.put, List.setIfInBounds_toArray, List.set_cons_zero, List.set_cons_succ, i64_w, i32_w]
         rfl
        refine Zpt 5 (some 38) (h := ?_)
        refine ZtW7 6 (some 39) hHeld (h := ?_)
        refine one_ (i := 8) (N := some 41) #[true, true, true, true, true, true, true, true, true, false, false, false] rfl rfl (one_of HT_.out (by kernel_rfl)) (by decide) (fun K hK => ?_)
        refine goes_ Try.func73 (by kernel_rfl) rfl #[.agg #[.int .i64 a1_0, .slice A1_1 l1_1.length c1_1, .slice A1_2 l1_2.length c1_2]] (by rfl) rfl rfl ZA ?_
        with_reducible refine (impl_Jacobi_polys.calls kj3 a1_0 _ _ l1_1 _ _ l1_2 t683 _ ?side1 ?side2 ?side3 ?side4 A29.out).mono ?_
        (case side1 => exact ZC HR1_1)
        (case side2 => exact HC1_1.out)
        (case side3 => exact ZC HR1_2)
        (case side4 => exact HC1_2.out)
        rintro e w38 ⟨v684, rfl, ho0, hb⟩
        have HS6_ := (hb.cell (World.block_lt_of_cell? _ _ (hHeld.2.2.2.2.2.2))).trans (hHeld.2.2.2.2.2.2)
        refine ⟨_, rfl, ?_⟩
        have n0_ := Aside0.mk (Kd.N_elder' (by (with_reducible repeat (first | apply Kd.N_alloc | apply Kd.N_drewN | apply Kd.N_drew)); exact HO681.out) (Kd.N_base ho0) hb)
        have n1_ := Aside0.mk (Kd.V_elder' (by (with_reducible repeat (first | apply Kd.V_alloc | apply Kd.V_drewN | apply Kd.V_drew)); exact HL682_0.out) (Kd.N_base ho0) hb)
        have n2_ := Aside0.mk (Kd.N_lower (Kd.N_mono (ok' := fun k_ => some k_ ≠ (.slice (some ad682) t679.length co37 : Value).ownBlock ∧ k_ ≠ gb671 ∧ k_ ≠ gb672) ho0 (fun k_ hk_ => ⟨(Kd.fresh' (Kd.N_lt (by (with_reducible repeat (first | apply Kd.N_alloc | apply Kd.N_drewN | apply Kd.N_drew)); exact HO681.out)) k_ hk_), (Kd.freshB (ZK BK671) k_ hk_), (Kd.freshB (ZK BK672) k_ hk_)⟩)) (below_size ZB))
        have n3_ := ZL BK671 hb
        have n4_ := ZL BK672 hb
        have n5_ := Aside0.mk (Kd.C_below (by repeat (first | (with_reducible exact HR682_0.out) | (with_reducible refine Kd.C_alloc ?_ _) | (with_reducible refine Kd.C_drewN ?_ _) | (with_reducible refine Kd.C_drew ?_) | exact HR682_0.out)) hb)
        have n6_ := Aside0.mk (below_step ZB hb)
        clear HO681
        clear HL682_0
        clear BK671
        clear BK672
        clear HR682_0
        clear HB
        have HO681 := n0_
        have HL682_0 := n1_
        have HO685 := n2_
        have BK671 := n3_
        have BK672 := n4_
        have HR682_0 := n5_
        have HB := n6_
        clear n0_ n1_ n2_ n3_ n4_ n5_ n6_
        (try clear hb)
        (try clear hb2)
        (try clear hk)
        (try clear hi)
        (try clear ho0)
        obtain ⟨Ao39, co39, eo39⟩ := Kd.N_slice HO685.out
        (first | subst eo39 | (injection eo39 with f1_ f2_ f3_; have f4_ := f1_.symm; have f5_ := f3_.symm; clear f1_ f2_ f3_; subst f4_; subst f5_))
        refine hK.out _ _ ⟨(blk_cell BK671.out 0).trans rfl, (blk_cell BK671.out 1).trans rfl, (blk_cell BK671.out 2).trans rfl, (blk_cell BK672.out 0).trans rfl, (blk_cell BK672.out 1).trans rfl, (blk_cell BK672.out 2).trans rfl, HS6_⟩ (fun hHeld => ?_)
        clear hK K
        refine norm_ (a' := ?_) ?_ ?_
        rotate_left
        ·show Act.put _ (some 41) _ = _
         simp only [Act.put, List.setIfInBounds_toArray, List.set_cons_zero, List.set_cons_succ, i64_w, i32_w]
         rfl
        refine one_ (i := 9) (N := some 42) #[true, true, true, true, true, true, true, true, true, true, false, false] rfl rfl (one_of HT_.out (by kernel_rfl)) (by decide) (fun K hK => ?_)
        refine goes_ Try.func72 (by kernel_rfl) rfl #[.int .i64 t678, .slice A682_0 (rd_L1 t679 a2).length c682_0, .slice Ao39 t683.length co39] (by rfl) rfl rfl ZA ?_
        with_reducible refine (impl_field_expand.calls kj3 t678 (fun k_ => (((k_ ≠ gb671 ∧ k_ ≠ gb672) ∧ some k_ ≠ (.slice (some ad682) t679.length co37 : Value).ownBlock) ∧ some k_ ≠ (.slice Ao39 t683.length co39 : Value).ownBlock)) _ _ (rd_L1 t679 a2) _ _ t683 t686 _ ?side1 ?side2 ?side3 A30.out).mono ?_
        (case side1 => exact HL682_0.out)
        (case side2 => repeat (first | exact (Kd.N_reads' HO685.out).2.2 | (with_reducible refine Kd.C_alloc ?_ _) | (with_reducible refine Kd.C_drewN ?_ _) | (with_reducible refine Kd.C_drew ?_)))
        (case side3 => exact (Kd.N_reads' HO685.out).2.1)
        rintro e w40 ⟨v687, rfl, ho0, hb⟩
        have HS6_ := (hb.cell (World.block_lt_of_cell? _ _ (hHeld.2.2.2.2.2.2))).trans (hHeld.2.2.2.2.2.2)
        refine ⟨_, rfl, ?_⟩
        have n0_ := Aside0.mk (Kd.N_elder' (by (with_reducible repeat (first | apply Kd.N_alloc | apply Kd.N_drewN | apply Kd.N_drew)); exact HO681.out) (Kd.R_base ho0) hb)
        have n1_ := Aside0.mk (Kd.V_elder' (by (with_reducible repeat (first | apply Kd.V_alloc | apply Kd.V_drewN | apply Kd.V_drew)); exact HL682_0.out) (Kd.R_base ho0) hb)
        have n2_ := Aside0.mk (Kd.N_elder' (by (with_reducible repeat (first | apply Kd.N_alloc | apply Kd.N_drewN | apply Kd.N_drew)); exact HO685.out) (Kd.R_base ho0) hb)
        have n3_ := Aside0.mk (Kd.R_lower (Kd.R_mono (ok' := fun k_ => True) ho0 (fun _ hk_ => trivial)) (below_size ZB))
        have n4_ := ZL BK671 hb
        have n5_ := ZL BK672 hb
        have n6_ := Aside0.mk (Kd.C_below (by repeat (first | (with_reducible exact HR682_0.out) | (with_reducible refine Kd.C_alloc ?_ _) | (with_reducible refine Kd.C_drewN ?_ _) | (with_reducible refine Kd.C_drew ?_) | exact HR682_0.out)) hb)
        have n7_ := Aside0.mk (below_step ZB hb)
        clear HO681
        clear HL682_0
        clear HO685
        clear BK671
        clear BK672
        clear HR682_0
        clear HB
        have HO681 := n0_
        have HL682_0 := n1_
        have HO685 := n2_
        have HO688 := n3_
        have BK671 := n4_
        have BK672 := n5_
        have HR682_0 := n6_
        have HB := n7_
        clear n0_ n1_ n2_ n3_ n4_ n5_ n6_ n7_
        (try clear hb)
        (try clear hb2)
        (try clear hk)
        (try clear hi)
        (try clear ho0)
        refine hK.out _ _ ⟨(blk_cell BK671.out 0).trans rfl, (blk_cell BK671.out 1).trans rfl, (blk_cell BK671.out 2).trans rfl, (blk_cell BK672.out 0).trans rfl, (blk_cell BK672.out 1).trans rfl, (blk_cell BK672.out 2).trans rfl, HS6_⟩ (fun hHeld => ?_)
        clear hK K
        refine norm_ (a' := ?_) ?_ ?_
        rotate_left
        ·show Act.put _ (some 42) _ = _
         simp only [Act.put, List.setIfInBounds_toArray, List.set_cons_zero, List.set_cons_succ, i64_w, i32_w]
         rfl
        refine Zpt 10 (some 6) (h := ?_)
        refine Zpt 11 (some 7) (h := ?_)
        refine done_ (done_of HT_.out (by kernel_rfl)) ?_
        try go_wp2
        go_ret2
        exact ⟨_, by first | rfl | (simp [errW_none, errW_some] <;> rfl) | (simp only [← hji22]; first | rfl | (simp [errW_none, errW_some] <;> rfl)) | (simp [*, errW_none, errW_some] <;> rfl), by refine ZQ ?_; exact HO688.out, ZB⟩
       ·rw [if_neg c28] at H
        exact absurd H (by simp)
      ·rw [if_neg c27] at H
       exact absurd H (by simp)
     ·replace c24 := Bool.eq_false_iff.mpr c24
      subst c24
      have H1 : (some (([] : List Int), 2)) = some (r1, r2) := by rw [if_neg (show ¬ (false = true) by decide)] at H; exact H
      clear H
      have H := H1
      clear H1
      simp only [Option.some.injEq, Prod.mk.injEq] at H
      obtain ⟨rfl, rfl⟩ := H
      try go_wp2
      have n0_ := Aside0.mk (blk_drew BK671.out)
      have n1_ := Aside0.mk (blk_drew BK672.out)
      have n2_ := Aside0.mk (below_drew1 HB.out)
      clear BK671
      clear BK672
      clear HB
      have BK671 := n0_
      have BK672 := n1_
      have HB := n2_
      clear n0_ n1_ n2_
      refine start_ (n := 16) (S := fun w' => w'.cell? ⟨gb671, 0, none⟩ = some (.int .i64 a0_0) ∧ w'.cell? ⟨gb671, 1, none⟩ = some (.slice A0_1 l0_1.length c0_1) ∧ w'.cell? ⟨gb671, 2, none⟩ = some (.slice A0_2 l0_2.length c0_2) ∧ w'.cell? ⟨gb672, 0, none⟩ = some (.int .i64 a1_0) ∧ w'.cell? ⟨gb672, 1, none⟩ = some (.slice A1_1 l1_1.length c1_1) ∧ w'.cell? ⟨gb672, 2, none⟩ = some (.slice A1_2 l1_2.length c1_2)) (ds := []) #[false, false, false, false, false, false, false, false, false, false, false, false, false, false, false, false] (by kernel_rfl) rfl rfl ⟨(blk_cell BK671.out 0).trans rfl, (blk_cell BK671.out 1).trans rfl, (blk_cell BK671.out 2).trans rfl, (blk_cell BK672.out 0).trans rfl, (blk_cell BK672.out 1).trans rfl, (blk_cell BK672.out 2).trans rfl⟩ (fun hHeld => ?_); refine with_tabW impl_ConnectJacobi.tab3 impl_ConnectJacobi.bits3 (fun HT_ HW_ => ?_)
      generalize wc.drew = w41 at BK671 BK672 HB hHeld ⊢
      refine Zpt 0 (some 18) (h := ?_)
      refine Zpt 2 (some 20) (h := ?_)
      refine ZtW6 1 (some 19) hHeld (h := ?_)
      refine ZtW6 3 (some 21) hHeld (h := ?_)
      refine Zpt 4 (some 22) (h := ?_)
      refine Zpt 5 (some 23) (h := ?_)
      refine Zpt 6 (some 24) (h := ?_)
      refine ZtW6 7 (some 25) hHeld (h := ?_)
      refine ZtW6 9 (some 27) hHeld (h := ?_)
      refine one_ (i := 8) (N := some 26) #[true, true, true, true, true, true, true, true, true, true, false, false, false, false, false, false] rfl rfl (one_of HT_.out (by kernel_rfl)) (by decide) (fun K hK => ?_)
      refine goes_ Try.func59 (by kernel_rfl) rfl #[.agg #[.int .i64 a0_0, .slice A0_1 l0_1.length c0_1, .slice A0_2 l0_2.length c0_2]] (by rfl) rfl rfl ZA ?_
      with_reducible refine (impl_Jacobi_size.calls a0_0 _ _ l0_1 _ _ l0_2 t675 _ ?side1 ?side2 ?side3 ?side4 A20.out).mono ?_
      (case side1 => exact ZC HR0_1)
      (case side2 => exact HC0_1.out)
      (case side3 => exact ZC HR0_2)
      (case side4 => exact HC0_2.out)
      rintro e w42 ⟨rfl, hb⟩
      refine ⟨_, rfl, ?_⟩
      have n0_ := ZL BK671 hb
      have n1_ := ZL BK672 hb
      have n2_ := Aside0.mk (below_step ZB hb)
      clear BK671
      clear BK672
      clear HB
      have BK671 := n0_
      have BK672 := n1_
      have HB := n2_
      clear n0_ n1_ n2_
      (try clear hb)
      (try clear hb2)
      (try clear hk)
      (try clear hi)
      refine hK.out _ _ ⟨(blk_cell BK671.out 0).trans rfl, (blk_cell BK671.out 1).trans rfl, (blk_cell BK671.out 2).trans rfl, (blk_cell BK672.out 0).trans rfl, (blk_cell BK672.out 1).trans rfl, (blk_cell BK672.out 2).trans rfl⟩ (fun hHeld => ?_)
      clear hK K
      refine norm_ (a' := ?_) ?_ ?_
      rotate_left
      ·show Act.put _ (some 26) _ = _
       simp only [Act.put, List.setIfInBounds_toArray, List.set_cons_zero, List.set_cons_succ, i64_w, i32_w]
       rfl
      refine one_ (i := 10) (N := some 28) #[true, true, true, true, true, true, true, true, true, true, true, false, false, false, false, false] rfl rfl (one_of HT_.out (by kernel_rfl)) (by decide) (fun K hK => ?_)
      refine goes_ Try.func59 (by kernel_rfl) rfl #[.agg #[.int .i64 a1_0, .slice A1_1 l1_1.length c1_1, .slice A1_2 l1_2.length c1_2]] (by rfl) rfl rfl ZA ?_
      with_reducible refine (impl_Jacobi_size.calls a1_0 _ _ l1_1 _ _ l1_2 t676 _ ?side1 ?side2 ?side3 ?side4 A21.out).mono ?_
      (case side1 => exact ZC HR1_1)
      (case side2 => exact HC1_1.out)
      (case side3 => exact ZC HR1_2)
      (case side4 => exact HC1_2.out)
      rintro e w43 ⟨rfl, hb⟩
      refine ⟨_, rfl, ?_⟩
      have n0_ := ZL BK671 hb
      have n1_ := ZL BK672 hb
      have n2_ := Aside0.mk (below_step ZB hb)
      clear BK671
      clear BK672
      clear HB
      have BK671 := n0_
      have BK672 := n1_
      have HB := n2_
      clear n0_ n1_ n2_
      (try clear hb)
      (try clear hb2)
      (try clear hk)
      (try clear hi)
      refine hK.out _ _ ⟨(blk_cell BK671.out 0).trans rfl, (blk_cell BK671.out 1).trans rfl, (blk_cell BK671.out 2).trans rfl, (blk_cell BK672.out 0).trans rfl, (blk_cell BK672.out 1).trans rfl, (blk_cell BK672.out 2).trans rfl⟩ (fun hHeld => ?_)
      clear hK K
      refine norm_ (a' := ?_) ?_ ?_
      rotate_left
      ·show Act.put _ (some 28) _ = _
       simp only [Act.put, List.setIfInBounds_toArray, List.set_cons_zero, List.set_cons_succ, i64_w, i32_w]
       rfl
      refine Zpt 11 (some 29) (h := ?_)
      refine one_ (i := 12) (N := some 30) #[true, true, true, true, true, true, true, true, true, true, true, true, true, false, false, false] rfl rfl (one_of HT_.out (by kernel_rfl)) (by decide) (fun K hK => ?_)
      refine goes_ Try.func76 (by kernel_rfl) rfl #[.int .i64 a2, .int .i64 0, .int .i64 ji22] (by rfl) rfl rfl (by (try simp only [List.map_toArray, List.map_cons, List.map_nil]); first | done | (simp only [hji22]; rfl) | rfl | (simp only [List.length_drop, List.length_take]; rfl)) ?_
      with_reducible refine (impl_within.calls a2 0 ji22 false _ A23.out).mono ?_
      rintro e w' ⟨rfl, ⟨nd, rfl⟩⟩
      refine ⟨_, rfl, ?_⟩
      refine hK.out _ _ ⟨(blk_cell BK671.out 0).trans rfl, (blk_cell BK671.out 1).trans rfl, (blk_cell BK671.out 2).trans rfl, (blk_cell BK672.out 0).trans rfl, (blk_cell BK672.out 1).trans rfl, (blk_cell BK672.out 2).trans rfl⟩ (fun hHeld => ?_)
      clear hK K
      refine norm_ (a' := ?_) ?_ ?_
      rotate_left
      ·show Act.put _ (some 30) _ = _
       simp only [Act.put, List.setIfInBounds_toArray, List.set_cons_zero, List.set_cons_succ, i64_w, i32_w]
       rfl
      refine Zpt 13 (some 31) (h := ?_)
      refine Zpt 14 (some 32) (h := ?_)
      refine Zpt 15 (some 17) (h := ?_)
      refine done_ (done_of HT_.out (by kernel_rfl)) ?_
      try go_wp2
      go_ret2
      exact ⟨_, by first | rfl | (simp [errW_none, errW_some] <;> rfl) | (simp only [← hji22]; first | rfl | (simp [errW_none, errW_some] <;> rfl)) | (simp [*, errW_none, errW_some] <;> rfl), by first | exact Kd.R_nil _ _ _ _ _ | exact Kd.N_nil _ _ _ _ _ | exact Kd.V_nil _ _ _ _ _ | exact Kd.Q_nil _ _ _ _ _ | exact Kd.S_nil _ _ _ _ _, ZB⟩
    ·rw [if_neg c19] at H
     have c19b0 : (a0_0 == a1_0) = false := beq_eq_false_iff_ne.mpr c19
     have c19b1 : (a0_0 != a1_0) = true := bne_iff_ne.mpr c19
     simp only [Option.some.injEq, Prod.mk.injEq] at H
     obtain ⟨rfl, rfl⟩ := H
     try go_wp2
     have n0_ := Aside0.mk (blk_drew BK671.out)
     have n1_ := Aside0.mk (blk_drew BK672.out)
     have n2_ := Aside0.mk (below_drew1 HB.out)
     clear BK671
     clear BK672
     clear HB
     have BK671 := n0_
     have BK672 := n1_
     have HB := n2_
     clear n0_ n1_ n2_
     refine start_ (n := 16) (S := fun w' => w'.cell? ⟨gb671, 0, none⟩ = some (.int .i64 a0_0) ∧ w'.cell? ⟨gb671, 1, none⟩ = some (.slice A0_1 l0_1.length c0_1) ∧ w'.cell? ⟨gb671, 2, none⟩ = some (.slice A0_2 l0_2.length c0_2) ∧ w'.cell? ⟨gb672, 0, none⟩ = some (.int .i64 a1_0) ∧ w'.cell? ⟨gb672, 1, none⟩ = some (.slice A1_1 l1_1.length c1_1) ∧ w'.cell? ⟨gb672, 2, none⟩ = some (.slice A1_2 l1_2.length c1_2)) (ds := []) #[false, false, false, false, false, false, false, false, false, false, false, false, false, false, false, false] (by kernel_rfl) rfl rfl ⟨(blk_cell BK671.out 0).trans rfl, (blk_cell BK671.out 1).trans rfl, (blk_cell BK671.out 2).trans rfl, (blk_cell BK672.out 0).trans rfl, (blk_cell BK672.out 1).trans rfl, (blk_cell BK672.out 2).trans rfl⟩ (fun hHeld => ?_); refine with_tabW impl_ConnectJacobi.tab3 impl_ConnectJacobi.bits3 (fun HT_ HW_ => ?_)
     generalize wc.drew = w44 at BK671 BK672 HB hHeld ⊢
     refine Zpt 0 (some 18) (h := ?_)
     refine Zpt 2 (some 20) (h := ?_)
     refine ZtW6 1 (some 19) hHeld (h := ?_)
     refine ZtW6 3 (some 21) hHeld (h := ?_)
     refine Zpt 4 (some 22) (h := ?_)
     refine Zpt 5 (some 23) (h := ?_)
     refine pure_ (i := 6) (N := some 24) (v := undef) (a' := ?_) #[true, true, true, true, true, true, true, false, false, false, false, false, false, false, false, false] rfl rfl (any_of HT_.out (by kernel_rfl)) (fun _ _ _ h => h) (Or.inr ⟨by rfl, rfl⟩) ?_ ?_
     rotate_left
     ·exact ZW
     refine pure_ (i := 7) (N := some 25) (v := undef) (a' := ?_) #[true, true, true, true, true, true, true, true, false, false, false, false, false, false, false, false] rfl rfl (any_of HT_.out (by kernel_rfl)) (fun _ _ _ h => h) (Or.inr ⟨by rfl, rfl⟩) ?_ ?_
     rotate_left
     ·exact ZW
     refine pure_ (i := 8) (N := some 26) (v := undef) (a' := ?_) #[true, true, true, true, true, true, true, true, true, false, false, false, false, false, false, false] rfl rfl (any_of HT_.out (by kernel_rfl)) (fun _ _ _ h => h) (Or.inr ⟨by rfl, rfl⟩) ?_ ?_
     rotate_left
     ·exact ZW
     refine pure_ (i := 9) (N := some 27) (v := undef) (a' := ?_) #[true, true, true, true, true, true, true, true, true, true, false, false, false, false, false, false] rfl rfl (any_of HT_.out (by kernel_rfl)) (fun _ _ _ h => h) (Or.inr ⟨by rfl, rfl⟩) ?_ ?_
     rotate_left
     ·exact ZW
     refine pure_ (i := 10) (N := some 28) (v := undef) (a' := ?_) #[true, true, true, true, true, true, true, true, true, true, true, false, false, false, false, false] rfl rfl (any_of HT_.out (by kernel_rfl)) (fun _ _ _ h => h) (Or.inr ⟨by rfl, rfl⟩) ?_ ?_
     rotate_left
     ·exact ZW
     refine pure_ (i := 11) (N := some 29) (v := undef) (a' := ?_) #[true, true, true, true, true, true, true, true, true, true, true, true, false, false, false, false] rfl rfl (any_of HT_.out (by kernel_rfl)) (fun _ _ _ h => h) (Or.inr ⟨by rfl, rfl⟩) ?_ ?_
     rotate_left
     ·exact ZW
     refine pure_ (i := 12) (N := some 30) (v := undef) (a' := ?_) #[true, true, true, true, true, true, true, true, true, true, true, true, true, false, false, false] rfl rfl (any_of HT_.out (by kernel_rfl)) (fun _ _ _ h => h) (Or.inr ⟨by rfl, rfl⟩) ?_ ?_
     rotate_left
     ·exact ZW
     refine pure_ (i := 13) (N := some 31) (v := undef) (a' := ?_) #[true, true, true, true, true, true, true, true, true, true, true, true, true, true, false, false] rfl rfl (any_of HT_.out (by kernel_rfl)) (fun _ _ _ h => h) (Or.inr ⟨by rfl, rfl⟩) ?_ ?_
     rotate_left
     ·exact ZW
     refine Zpt 14 (some 32) (h := ?_)
     refine Zpt 15 (some 17) (h := ?_)
     refine done_ (done_of HT_.out (by kernel_rfl)) ?_
     try go_wp2
     go_ret2
     exact ⟨_, by first | rfl | (simp [errW_none, errW_some] <;> rfl) | (simp [*, errW_none, errW_some] <;> rfl), by first | exact Kd.R_nil _ _ _ _ _ | exact Kd.N_nil _ _ _ _ _ | exact Kd.V_nil _ _ _ _ _ | exact Kd.Q_nil _ _ _ _ _ | exact Kd.S_nil _ _ _ _ _, ZB⟩

end Go.Proofs.Ytaclapojgdekpaa.X
