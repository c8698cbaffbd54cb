/- Contracts of functions that the law reaches, printed by a program of this session; Lean checks them. -/
import Derived.Test.YtaclapojgdekpaaCStepsOfJacobiX0
import Derived.Test.YtaclapojgdekpaaCStepsOfJacobiX10
import Derived.Test.YtaclapojgdekpaaCStepsOfJacobiX11
import Derived.Test.YtaclapojgdekpaaCStepsOfJacobiXZ
namespace Go.Proofs.Ytaclapojgdekpaa.X
open Go.RowKit Go.Proofs.YtaclapojgdekpaaW.PrintWords Go.Proofs.YtaclapojgdekpaaW.PrintLast Go.Proofs.YtaclapojgdekpaaW.PrintMore
attribute [local go_sem] max2_int min2_int max_two min_two max_three min_three max_four min_four   -- for this text's walks alone
set_option linter.unusedVariables false
set_option linter.unusedSimpArgs false

/-! ### spec_l08Step: function 63 -/
def spec_l08Step.l0 : Nat → Int → Int → Int → Int → Int → Int → Int → List Int → List Int → Int → List Int → List Int → Option (Int × List Int × List Int × Bool)
 | 0, _, _, _, _, _, _, _, _, _, _, _, _ => none
 | k + 1, x1, x6, x7, x9, x10, x11, x315000, x315001, x315002, x323000, x323001, x323002 => if (wrap64 (x11 + 1)) < x7 then (if x9 = 0 then (some (x323000, x323001, x323002, false)) else (if 0 ≤ (wrap64 (x11 + 1)) then (if (wrap64 (x11 + 1)) < (x315002.length : Int) then ((spec_l01Inverse.f k x6 x9).bind fun t326 => (if x6 = 0 then (none) else (if x323001.length < 17592186044416 then ((some (x323001 ++ [Int.tmod (wrap64 ((wrap64 (x9 + (Int.tmod (wrap64 ((rd x315002 (wrap64 (x11 + 1))) * t326)) x6))) + x1)) x6] : List Int)).bind fun y327 => (if x11 = 0 then (if 0 < (x315002.length : Int) then (if x323002.length < 17592186044416 then (if (wrap64 (x11 + 1)) < (x315001.length : Int) then ((spec_l01Mod.f x6 (wrap64 ((wrap64 ((rd x315001 (wrap64 (x11 + 1))) - x1)) - (Int.tmod (wrap64 ((rd x315002 (wrap64 (x11 + 1))) * t326)) x6)))).bind fun t335 => (spec_l08Step.l0 k x1 x6 x7 t335 (Int.tmod (wrap64 ((rd x315002 (wrap64 (x11 + 1))) * t326)) x6) (wrap64 (x11 + 1)) x315000 x315001 x315002 x323000 y327 (x323002 ++ [Int.tmod (wrap64 ((rd x315002 0) * x9)) x6]))) else (none)) else (none)) else (none)) else (if x323002.length < 17592186044416 then (if (wrap64 (x11 + 1)) < (x315001.length : Int) then ((spec_l01Mod.f x6 (wrap64 ((wrap64 ((rd x315001 (wrap64 (x11 + 1))) - x1)) - (Int.tmod (wrap64 ((rd x315002 (wrap64 (x11 + 1))) * t326)) x6)))).bind fun t340 => (spec_l08Step.l0 k x1 x6 x7 t340 (Int.tmod (wrap64 ((rd x315002 (wrap64 (x11 + 1))) * t326)) x6) (wrap64 (x11 + 1)) x315000 x315001 x315002 x323000 y327 (x323002 ++ [Int.tmod (wrap64 (x9 * x10)) x6]))) else (none)) else (none)))) else (none)))) else (none)) else (none))) else (some (x323000, x323001, x323002, true))
def spec_l08Step.f (k : Nat) (a0_0 : Int) (l0_1 : List Int) (l0_2 : List Int) (a1 : Int) : Option (Int × List Int × List Int × Bool) := (some (([] : List Int) : List Int)).bind fun y316 => ((some (([] : List Int) : List Int)).bind fun y319 => (if (l0_1.length : Int) < 2 then (some (a0_0, y316, y319, false)) else (if 0 < (l0_1.length : Int) then ((spec_l01Mod.f a0_0 (wrap64 ((rd l0_1 0) - a1))).bind fun t324 => (spec_l08Step.l0 k a1 a0_0 (l0_1.length : Int) t324 0 0 a0_0 l0_1 l0_2 a0_0 y316 y319)) else (none))))
theorem spec_l08Step.mono_l : ∀ k, (∀ y0 y1 y2 y3 y4 y5 y6 y7 y8 y9 y10 y11, LeO (spec_l08Step.l0 k y0 y1 y2 y3 y4 y5 y6 y7 y8 y9 y10 y11) (spec_l08Step.l0 (k + 1) y0 y1 y2 y3 y4 y5 y6 y7 y8 y9 y10 y11))
 | 0 => fun _ _ _ _ _ _ _ _ _ _ _ _ r h => by simp [spec_l08Step.l0] at h
 | k + 1 => by
  have ih0 := spec_l08Step.mono_l k
  ·intro y0 y1 y2 y3 y4 y5 y6 y7 y8 y9 y10 y11
   unfold spec_l08Step.l0
   repeat' first
   | (with_reducible exact ih0 _ _ _ _ _ _ _ _ _ _ _ _)
   | (with_reducible exact spec_l01Inverse.mono _ _ _)
   | (with_reducible exact LeO.refl _)
   | (with_reducible exact LeO.none _)
   | (with_reducible refine LeO.ite ?_ ?_)
   | (with_reducible refine LeO.bind ?_ (fun _ => ?_))
   | exact ih0 _ _ _ _ _ _ _ _ _ _ _ _
   | exact spec_l01Inverse.mono _ _ _
   | exact LeO.none _
   | refine LeO.ite ?_ ?_
   | refine LeO.bind ?_ (fun _ => ?_)
theorem spec_l08Step.mono : ∀ a0 a1 a2 a3 k, LeO (spec_l08Step.f k a0 a1 a2 a3) (spec_l08Step.f (k + 1) a0 a1 a2 a3) := by
 intro a0 a1 a2 a3 k
 have ih0 := spec_l08Step.mono_l k
 unfold spec_l08Step.f
 repeat' first
   | (with_reducible exact ih0 _ _ _ _ _ _ _ _ _ _ _ _)
   | (with_reducible exact spec_l01Inverse.mono _ _ _)
   | (with_reducible exact LeO.refl _)
   | (with_reducible exact LeO.none _)
   | (with_reducible refine LeO.ite ?_ ?_)
   | (with_reducible refine LeO.bind ?_ (fun _ => ?_))
   | exact ih0 _ _ _ _ _ _ _ _ _ _ _ _
   | exact spec_l01Inverse.mono _ _ _
   | exact LeO.none _
   | refine LeO.ite ?_ ?_
   | refine LeO.bind ?_ (fun _ => ?_)
def spec_l08Step.T11 : Bool × List (List Nat × List Nat) := (true, [([], []), ([0], [0]), ([], []), ([2], [2]), ([1, 3], [1, 3]), ([4], [4]), ([], []), ([], []), ([6, 7], [6, 7]), ([5, 8], [5, 8]), ([], []), ([9, 10], [9, 10]), ([11, 8, 0, 1, 2, 3, 4, 5, 6, 7, 8, 9, 10, 11], [11])])
def spec_l08Step.B11 : List Nat := [0, 1, 0, 4, 15, 31, 0, 0, 192, 511, 0, 2047, 4095]
theorem spec_l08Step.tab11 : rtab .any (opsOf Try.f63 11) = spec_l08Step.T11 := by kernel_rfl
theorem spec_l08Step.bits11 : waitsOk spec_l08Step.T11.2 spec_l08Step.B11 = true := by kernel_rfl
def spec_l08Step.T12 : Bool × List (List Nat × List Nat) := (true, [([], []), ([0], [0]), ([], []), ([], []), ([2, 3], [2, 3]), ([], []), ([4, 5], [4, 5]), ([], []), ([6, 7], [6, 7]), ([8], [8]), ([1, 9], [1, 9]), ([0, 1, 2, 3, 4, 5, 6, 7, 8, 9, 10], []), ([11, 10, 10, 0, 1, 2, 3, 4, 5, 6, 7, 8, 9, 10], [10, 11])])
def spec_l08Step.B12 : List Nat := [0, 1, 0, 0, 12, 0, 60, 0, 252, 508, 1023, 2047, 4095]
theorem spec_l08Step.tab12 : rtab .any (opsOf Try.f63 12) = spec_l08Step.T12 := by kernel_rfl
theorem spec_l08Step.bits12 : waitsOk spec_l08Step.T12.2 spec_l08Step.B12 = true := by kernel_rfl
def spec_l08Step.T14 : Bool × List (List Nat × List Nat) := (true, [([], []), ([0], [0]), ([], []), ([2], [2]), ([3], [3]), ([4], [4]), ([], []), ([5, 6], [5, 6]), ([], []), ([7, 8], [7, 8]), ([9], [9]), ([1, 10], [1, 10]), ([0, 1, 2, 3, 4, 5, 6, 7, 8, 9, 10, 11], []), ([12, 11, 11, 0, 1, 2, 3, 4, 5, 6, 7, 8, 9, 10, 11], [11, 12])])
def spec_l08Step.B14 : List Nat := [0, 1, 0, 4, 12, 28, 0, 124, 0, 508, 1020, 2047, 4095, 8191]
theorem spec_l08Step.tab14 : rtab .any (opsOf Try.f63 14) = spec_l08Step.T14 := by kernel_rfl
theorem spec_l08Step.bits14 : waitsOk spec_l08Step.T14.2 spec_l08Step.B14 = true := by kernel_rfl
def spec_l08Step.T15 : Bool × List (List Nat × List Nat) := (true, [([], []), ([0], [0]), ([], []), ([], []), ([2, 3], [2, 3]), ([], []), ([4, 5], [4, 5]), ([6], [6]), ([1, 7], [1, 7]), ([0, 1, 2, 3, 4, 5, 6, 7, 8], []), ([9, 8, 8, 0, 1, 2, 3, 4, 5, 6, 7, 8], [8, 9])])
def spec_l08Step.B15 : List Nat := [0, 1, 0, 0, 12, 0, 60, 124, 255, 511, 1023]
theorem spec_l08Step.tab15 : rtab .any (opsOf Try.f63 15) = spec_l08Step.T15 := by kernel_rfl
theorem spec_l08Step.bits15 : waitsOk spec_l08Step.T15.2 spec_l08Step.B15 = true := by kernel_rfl
set_option maxHeartbeats 8000000 in
set_option maxRecDepth 100000 in
theorem spec_l08Step.calls (k : Nat) (a0_0 : Int) (A0_1 : Option Addr) (c0_1 : Nat) (l0_1 : List Int) (A0_2 : Option Addr) (c0_2 : Nat) (l0_2 : List Int) (a1 : Int) (r1 : Int) (r2 : List Int) (r3 : List Int) (r4 : Bool) (w : World) (hr0_1 : Kd.C (Kd.int .i64) w A0_1 l0_1.length l0_1) (hc0_1 : l0_1.length ≤ c0_1) (hr0_2 : Kd.C (Kd.int .i64) w A0_2 l0_2.length l0_2) (hc0_2 : l0_2.length ≤ c0_2) (h : spec_l08Step.f k a0_0 l0_1 l0_2 a1 = some (r1, r2, r3, r4)) :
  Calls Try.prog 63 #[.agg #[.int .i64 a0_0, .slice A0_1 l0_1.length c0_1, .slice A0_2 l0_2.length c0_2], .int .i64 a1] w fun e w' => ∃ v1_ v2_ : Value, e = .returned (.tuple #[.agg #[.int .i64 r1, v1_, v2_], .bool r4]) ∧ Kd.R (Kd.int .i64) 2 w' w.heap.size (fun k_ => some k_ ≠ (v2_ : Value).ownBlock) v1_ r2 ∧ Kd.R (Kd.int .i64) 2 w' w.heap.size (fun k_ => some k_ ≠ (v1_ : Value).ownBlock) v2_ r3 ∧ Below w.heap.size w w' := by
 have hu29 := Try.underlying29
 have HR0_1 := Aside0.mk hr0_1
 have HC0_1 := Aside0.mk hc0_1
 clear hr0_1 hc0_1
 have HR0_2 := Aside0.mk hr0_2
 have HC0_2 := Aside0.mk hc0_2
 clear hr0_2 hc0_2
 have HB := Aside0.mk (Below.refl w.heap.size w)
 have H : ((some (([] : List Int) : List Int)).bind fun y316 => ((some (([] : List Int) : List Int)).bind fun y319 => (if (l0_1.length : Int) < 2 then (some (a0_0, y316, y319, false)) else (if 0 < (l0_1.length : Int) then ((spec_l01Mod.f a0_0 (wrap64 ((rd l0_1 0) - a1))).bind fun t324 => (spec_l08Step.l0 k a1 a0_0 (l0_1.length : Int) t324 0 0 a0_0 l0_1 l0_2 a0_0 y316 y319)) else (none))))) = some (r1, r2, r3, r4) := h
 clear h
 obtain ⟨y316, hy316⟩ : ∃ y_ : List Int, y_ = (([] : List Int)) := ⟨_, rfl⟩
 replace H : ((some (([] : List Int) : List Int)).bind fun y319 => (if (l0_1.length : Int) < 2 then (some (a0_0, y316, y319, false)) else (if 0 < (l0_1.length : Int) then ((spec_l01Mod.f a0_0 (wrap64 ((rd l0_1 0) - a1))).bind fun t324 => (spec_l08Step.l0 k a1 a0_0 (l0_1.length : Int) t324 0 0 a0_0 l0_1 l0_2 a0_0 y316 y319)) else (none)))) = some (r1, r2, r3, r4) := by first | (rw [hy316]; with_reducible exact H) | (have H2_ := (Option.bind_some _ _).symm.trans H; rw [hy316]; with_reducible exact H2_) | (have H2_ := (Option.bind_some _ _).symm.trans H; with_reducible exact H2_) | with_reducible exact H | (rw [hy316]; exact H) | exact H
 have Ny316 := Aside0.mk hy316
 clear hy316
 obtain ⟨y319, hy319⟩ : ∃ y_ : List Int, y_ = (([] : List Int)) := ⟨_, rfl⟩
 replace H : (if (l0_1.length : Int) < 2 then (some (a0_0, y316, y319, false)) else (if 0 < (l0_1.length : Int) then ((spec_l01Mod.f a0_0 (wrap64 ((rd l0_1 0) - a1))).bind fun t324 => (spec_l08Step.l0 k a1 a0_0 (l0_1.length : Int) t324 0 0 a0_0 l0_1 l0_2 a0_0 y316 y319)) else (none))) = some (r1, r2, r3, r4) := by first | (rw [hy319]; with_reducible exact H) | (have H2_ := (Option.bind_some _ _).symm.trans H; rw [hy319]; with_reducible exact H2_) | (have H2_ := (Option.bind_some _ _).symm.trans H; with_reducible exact H2_) | with_reducible exact H | (rw [hy319]; exact H) | exact H
 have Ny319 := Aside0.mk hy319
 clear hy319
 by_cases c3 : (l0_1.length : Int) < 2
 ·rw [if_pos c3] at H
  have c3b0 : decide ((l0_1.length : Int) < 2) = true := decide_eq_true c3
  have c3b1 : decide (l0_1.length < 2) = true := decide_eq_true (by omega)
  clear c3
  simp only [Option.some.injEq, Prod.mk.injEq] at H
  obtain ⟨rfl, rfl, rfl, rfl⟩ := H
  go_enter Try.func63, Try.ntmps63
  try go_wp2_with (first | ((with_reducible refine gate_dst (N := 2) rfl ?_); refine box_event ?hg (N := 2) ?hd (cs := #[.int .i64 a0_0, .slice A0_1 l0_1.length c0_1, .slice A0_2 l0_2.length c0_2]) (t := 29) ?hr ?_; (case hd => rfl); (case hg => rfl); (case hr => first | (go_simp; done) | (go_simp; rfl)); intro gb314 hg w4 hbox hb; have n0_ := Aside0.mk (below_step ZB hb); have n1_ := Aside0.mk (hbox); have n2_ := Aside0.mk ((ZG hg : w.heap.size ≤ gb314)); have n3_ := Aside0.mk ((ZG hg : w.heap.size ≤ gb314)); clear HB; have HB := n0_; have BK314 := n1_; have GW314 := n2_; have GE314 := n3_; clear n0_ n1_ n2_ n3_; clear hb hbox hg) | ((with_reducible refine gate_dst (N := 4) rfl ?_); refine box_event ?hg (N := 4) ?hd (cs := #[.int .i64 0, .slice none 0 0, .slice none 0 0]) (t := 29) ?hr ?_; (case hd => rfl); (case hg => rfl); (case hr => first | (go_simp; done) | (go_simp; rfl)); intro gb315 hg w5 hbox hb; have n0_ := ZL BK314 hb; have n1_ := Aside0.mk (below_step ZB hb); have n2_ := Aside0.mk (hbox); have n3_ := Aside0.mk ((ZG hg : w.heap.size ≤ gb315)); have n4_ := Aside0.mk ((ZG hg : w.heap.size ≤ gb315)); have n5_ := Aside0.mk ((ZN hg BK314 : gb314 ≠ gb315)); have n6_ := Aside0.mk ((ZM hg BK314 : gb315 ≠ gb314)); clear BK314; clear HB; have BK314 := n0_; have HB := n1_; have BK315 := n2_; have GW315 := n3_; have GE315 := n4_; have NB314_315 := n5_; have NB315_314 := n6_; clear n0_ n1_ n2_ n3_ n4_ n5_ n6_; clear hb hbox hg))
  have n0_ := Aside0.mk (blk_drew BK314.out)
  have n1_ := Aside0.mk (blk_drew BK315.out)
  have n2_ := Aside0.mk (below_drew1 HB.out)
  clear BK314
  clear BK315
  clear HB
  have BK314 := n0_
  have BK315 := n1_
  have HB := n2_
  clear n0_ n1_ n2_
  refine start_ (n := 7) (S := fun w' => w'.cell? ⟨gb314, 0, none⟩ = some (.int .i64 a0_0) ∧ w'.cell? ⟨gb314, 1, none⟩ = some (.slice A0_1 l0_1.length c0_1) ∧ w'.cell? ⟨gb314, 2, none⟩ = some (.slice A0_2 l0_2.length c0_2)) (ds := []) #[false, false, false, false, false, false, false] (by kernel_rfl) rfl rfl ⟨(blk_cell BK314.out 0).trans rfl, (blk_cell BK314.out 1).trans rfl, (blk_cell BK314.out 2).trans rfl⟩ (fun hHeld => ?_)
  generalize w5.drew = w6 at BK314 BK315 HB hHeld ⊢
  refine Zp 0 (some 13) (h := ?_)
  refine Zp 2 (some 15) (h := ?_)
  refine Zt3 1 (some 14) hHeld (h := ?_)
  refine Zp 5 (some 6) (h := ?_)
  refine Zt3 3 (some 16) hHeld (h := ?_)
  refine Zp 4 (some 17) (h := ?_)
  refine Zp 6 (some 7) (h := ?_)
  refine done_ (by kernel_rfl) ?_
  try go_wp2_with (first | ((with_reducible refine gate_dst (N := 19) rfl ?_); refine Kd.R_lit (Kd.int .i64) _ 2 ?hg (N := 19) ?hd (xs := ([] : List Int)) (inner := []) (ok := fun _ => True) (okp := fun _ => True) ?hr ?hp (fun _ hk => hk) trivial (Below.refl _ _) (Nat.le_refl _) (by simp) ?_; (case hd => rfl); (case hg => rfl); (case hr => first | (go_simp; done) | (go_simp; rfl)); (case hp => exact (Reps.none _ _)); intro v317 w7 ho8 hb hg_ hnew_; clear hg_ hnew_; (first | rw [← Ny316.out] at ho8 | (simp only [Int.reduceToNat] at ho8; rw [← Ny316.out] at ho8)); have n0_ := Aside0.mk (Kd.R_lower ho8 (below_size ZB)); have n1_ := ZL BK314 hb; have n2_ := ZL BK315 hb; have n3_ := Aside0.mk (below_step ZB hb); clear BK314; clear BK315; clear HB; have HO318 := n0_; have BK314 := n1_; have BK315 := n2_; have HB := n3_; clear n0_ n1_ n2_ n3_; clear hb ho8) | ((with_reducible refine gate_dst (N := 20) rfl ?_); refine Kd.R_lit (Kd.int .i64) _ 2 ?hg (N := 20) ?hd (xs := ([] : List Int)) (inner := []) (ok := fun _ => True) (okp := fun _ => True) ?hr ?hp (fun _ hk => hk) trivial (Below.refl _ _) (Nat.le_refl _) (by simp) ?_; (case hd => rfl); (case hg => rfl); (case hr => first | (go_simp; done) | (go_simp; rfl)); (case hp => exact (Reps.none _ _)); intro v320 w9 ho10 hb hg_ hnew_; clear hg_ hnew_; (first | rw [← Ny319.out] at ho10 | (simp only [Int.reduceToNat] at ho10; rw [← Ny319.out] at ho10)); have n0_ := Aside0.mk (Kd.R_elder' (ZR HO318) (Kd.R_base ho10) hb); have n1_ := Aside0.mk (Kd.R_lower (Kd.R_new' ho10 (Kd.R_lt (ZR HO318))) (below_size ZB)); have n2_ := ZL BK314 hb; have n3_ := ZL BK315 hb; have n4_ := Aside0.mk (below_step ZB hb); clear HO318; clear BK314; clear BK315; clear HB; have HO318 := n0_; have HO321 := n1_; have BK314 := n2_; have BK315 := n3_; have HB := n4_; clear n0_ n1_ n2_ n3_ n4_; clear hb ho10; obtain ⟨Ao11, co11, eo11⟩ := Kd.R_slice HO321.out; subst eo11; obtain ⟨Ao12, co12, eo12⟩ := Kd.R_slice HO318.out; subst eo12) | ((with_reducible refine gate_dst (N := 8) rfl ?_); refine box_event ?hg (N := 8) ?hd (cs := #[.int .i64 0, .slice none 0 0, .slice none 0 0]) (t := 29) ?hr ?_; (case hd => rfl); (case hg => rfl); (case hr => first | (go_simp; done) | (go_simp; rfl)); intro gb322 hg w13 hbox hb; have n0_ := Aside0.mk (Kd.R_below (ZR HO318) hb); have n1_ := Aside0.mk (Kd.R_below (ZR HO321) hb); have n2_ := ZL BK314 hb; have n3_ := ZL BK315 hb; have n4_ := Aside0.mk (below_step ZB hb); have n5_ := Aside0.mk (hbox); have n6_ := Aside0.mk ((ZG hg : w.heap.size ≤ gb322)); have n7_ := Aside0.mk ((ZG hg : w.heap.size ≤ gb322)); have n8_ := Aside0.mk ((ZN hg BK314 : gb314 ≠ gb322)); have n9_ := Aside0.mk ((ZM hg BK314 : gb322 ≠ gb314)); have n10_ := Aside0.mk ((ZN hg BK315 : gb315 ≠ gb322)); have n11_ := Aside0.mk ((ZM hg BK315 : gb322 ≠ gb315)); clear HO318; clear HO321; clear BK314; clear BK315; clear HB; have HO318 := n0_; have HO321 := n1_; have BK314 := n2_; have BK315 := n3_; have HB := n4_; have BK322 := n5_; have GW322 := n6_; have GE322 := n7_; have NB314_322 := n8_; have NB322_314 := n9_; have NB315_322 := n10_; have NB322_315 := n11_; clear n0_ n1_ n2_ n3_ n4_ n5_ n6_ n7_ n8_ n9_ n10_ n11_; clear hb hbox hg; have hnb14 := NB322_314.out; have hnc14 := NB314_322.out; have hnb15 := NB322_315.out; have hnc15 := NB315_322.out; obtain ⟨hcz16_0, hcz16_1, hcz16_2, hfz16_0, hfz16_1, hfz16_2⟩ := ZD3 BK322; have hnb17 := NB315_314.out; have hnc17 := NB314_315.out; obtain ⟨hcz18_0, hcz18_1, hcz18_2, hfz18_0, hfz18_1, hfz18_2⟩ := ZD3 BK315))
  refine bodyPost_ret (results_ct rfl _ _ gb315 29 #[.int .i64 a0_0, .slice Ao12 y316.length co12, .slice Ao11 y319.length co11] (0, 0) _ rfl (by refine ZS ?_; refine blk_put (cs := #[.int .i64 a0_0, .slice Ao12 y316.length co12, .slice none 0 0]) ?_ 2 _ rfl; refine ZS ?_; refine blk_put (cs := #[.int .i64 a0_0, .slice none 0 0, .slice none 0 0]) ?_ 1 _ rfl; refine ZS ?_; refine blk_put (cs := #[.int .i64 0, .slice none 0 0, .slice none 0 0]) ?_ 0 _ rfl; refine ZS ?_; refine blk_far ?_ NB315_322.out _; refine ZS ?_; refine blk_far ?_ NB315_322.out _; refine ZS ?_; refine blk_far ?_ NB315_322.out _; refine ZS ?_; exact BK315.out) Try.underlying29 rfl (by kernel_rfl)) rfl ?_
  exact ⟨_, _, by first | rfl | (simp [errW_none, errW_some] <;> rfl) | (simp [*, errW_none, errW_some] <;> rfl), by refine ZQ ?_; exact Kd.R_mono (Kd.R_far (p := ⟨gb315, 2, none⟩) (Kd.R_far (p := ⟨gb315, 1, none⟩) (Kd.R_far (p := ⟨gb315, 0, none⟩) (Kd.R_far (p := ⟨gb322, 2, none⟩) (Kd.R_far (p := ⟨gb322, 1, none⟩) (Kd.R_far (p := ⟨gb322, 0, none⟩) (Kd.R_types (Kd.R_types HO318.out BK322.out (by decide)) BK315.out (by decide)) (fun _ hk => hk.1.2) (.int .i64 a0_0)) (fun _ hk => hk.1.2) (.slice Ao12 y316.length co12)) (fun _ hk => hk.1.2) (.slice Ao11 y319.length co11)) (fun _ hk => hk.2) (.int .i64 a0_0)) (fun _ hk => hk.2) (.slice Ao12 y316.length co12)) (fun _ hk => hk.2) (.slice Ao11 y319.length co11)) (fun _ hk => hk.1.1.2), by refine ZQ ?_; exact Kd.R_mono (Kd.R_far (p := ⟨gb315, 2, none⟩) (Kd.R_far (p := ⟨gb315, 1, none⟩) (Kd.R_far (p := ⟨gb315, 0, none⟩) (Kd.R_far (p := ⟨gb322, 2, none⟩) (Kd.R_far (p := ⟨gb322, 1, none⟩) (Kd.R_far (p := ⟨gb322, 0, none⟩) (Kd.R_types (Kd.R_types HO321.out BK322.out (by decide)) BK315.out (by decide)) (fun _ hk => hk.1.2) (.int .i64 a0_0)) (fun _ hk => hk.1.2) (.slice Ao12 y316.length co12)) (fun _ hk => hk.1.2) (.slice Ao11 y319.length co11)) (fun _ hk => hk.2) (.int .i64 a0_0)) (fun _ hk => hk.2) (.slice Ao12 y316.length co12)) (fun _ hk => hk.2) (.slice Ao11 y319.length co11)) (fun _ hk => hk.1.1.2), ZB⟩
 ·rw [if_neg c3] at H
  have c3b0 : decide ((l0_1.length : Int) < 2) = false := decide_eq_false c3
  have c3b1 : decide (l0_1.length < 2) = false := decide_eq_false (by omega)
  clear c3
  by_cases c19 : 0 < (l0_1.length : Int)
  ·rw [if_pos c19] at H
   have c19b0 : decide (0 < (l0_1.length : Int)) = true := decide_eq_true c19
   have c19b1 : decide (0 < l0_1.length) = true := decide_eq_true (by omega)
   clear c19
   replace H := Option.bind_eq_some_iff.mp H
   obtain ⟨t324, A200, H⟩ := H
   replace H : (spec_l08Step.l0 k a1 a0_0 (l0_1.length : Int) t324 0 0 a0_0 l0_1 l0_2 a0_0 y316 y319) = some (r1, r2, r3, r4) := H
   have A20 := Aside0.mk A200
   clear A200
   have H' := Aside0.mk H
   clear H
   go_enter Try.func63, Try.ntmps63
   try go_wp2_with (first | ((with_reducible refine gate_dst (N := 2) rfl ?_); refine box_event ?hg (N := 2) ?hd (cs := #[.int .i64 a0_0, .slice A0_1 l0_1.length c0_1, .slice A0_2 l0_2.length c0_2]) (t := 29) ?hr ?_; (case hd => rfl); (case hg => rfl); (case hr => first | (go_simp; done) | (go_simp; rfl)); intro gb314 hg w21 hbox hb; have n0_ := Aside0.mk (below_step ZB hb); have n1_ := Aside0.mk (hbox); have n2_ := Aside0.mk ((ZG hg : w.heap.size ≤ gb314)); have n3_ := Aside0.mk ((ZG hg : w.heap.size ≤ gb314)); clear HB; have HB := n0_; have BK314 := n1_; have GW314 := n2_; have GE314 := n3_; clear n0_ n1_ n2_ n3_; clear hb hbox hg) | ((with_reducible refine gate_dst (N := 4) rfl ?_); refine box_event ?hg (N := 4) ?hd (cs := #[.int .i64 0, .slice none 0 0, .slice none 0 0]) (t := 29) ?hr ?_; (case hd => rfl); (case hg => rfl); (case hr => first | (go_simp; done) | (go_simp; rfl)); intro gb315 hg w22 hbox hb; have n0_ := ZL BK314 hb; have n1_ := Aside0.mk (below_step ZB hb); have n2_ := Aside0.mk (hbox); have n3_ := Aside0.mk ((ZG hg : w.heap.size ≤ gb315)); have n4_ := Aside0.mk ((ZG hg : w.heap.size ≤ gb315)); have n5_ := Aside0.mk ((ZN hg BK314 : gb314 ≠ gb315)); have n6_ := Aside0.mk ((ZM hg BK314 : gb315 ≠ gb314)); clear BK314; clear HB; have BK314 := n0_; have HB := n1_; have BK315 := n2_; have GW315 := n3_; have GE315 := n4_; have NB314_315 := n5_; have NB315_314 := n6_; clear n0_ n1_ n2_ n3_ n4_ n5_ n6_; clear hb hbox hg))
   have n0_ := Aside0.mk (blk_drew BK314.out)
   have n1_ := Aside0.mk (blk_drew BK315.out)
   have n2_ := Aside0.mk (below_drew1 HB.out)
   clear BK314
   clear BK315
   clear HB
   have BK314 := n0_
   have BK315 := n1_
   have HB := n2_
   clear n0_ n1_ n2_
   refine start_ (n := 7) (S := fun w' => w'.cell? ⟨gb314, 0, none⟩ = some (.int .i64 a0_0) ∧ w'.cell? ⟨gb314, 1, none⟩ = some (.slice A0_1 l0_1.length c0_1) ∧ w'.cell? ⟨gb314, 2, none⟩ = some (.slice A0_2 l0_2.length c0_2)) (ds := []) #[false, false, false, false, false, false, false] (by kernel_rfl) rfl rfl ⟨(blk_cell BK314.out 0).trans rfl, (blk_cell BK314.out 1).trans rfl, (blk_cell BK314.out 2).trans rfl⟩ (fun hHeld => ?_)
   generalize w22.drew = w23 at BK314 BK315 HB hHeld ⊢
   refine Zp 0 (some 13) (h := ?_)
   refine Zp 2 (some 15) (h := ?_)
   refine Zt3 1 (some 14) hHeld (h := ?_)
   refine Zp 5 (some 6) (h := ?_)
   refine Zt3 3 (some 16) hHeld (h := ?_)
   refine Zp 4 (some 17) (h := ?_)
   refine Zp 6 (some 7) (h := ?_)
   refine done_ (by kernel_rfl) ?_
   try go_wp2_with (first | ((with_reducible refine gate_dst (N := 19) rfl ?_); refine Kd.R_lit (Kd.int .i64) _ 2 ?hg (N := 19) ?hd (xs := ([] : List Int)) (inner := []) (ok := fun _ => True) (okp := fun _ => True) ?hr ?hp (fun _ hk => hk) trivial (Below.refl _ _) (Nat.le_refl _) (by simp) ?_; (case hd => rfl); (case hg => rfl); (case hr => first | (go_simp; done) | (go_simp; rfl)); (case hp => exact (Reps.none _ _)); intro v317 w24 ho25 hb hg_ hnew_; clear hg_ hnew_; (first | rw [← Ny316.out] at ho25 | (simp only [Int.reduceToNat] at ho25; rw [← Ny316.out] at ho25)); have n0_ := Aside0.mk (Kd.R_lower ho25 (below_size ZB)); have n1_ := ZL BK314 hb; have n2_ := ZL BK315 hb; have n3_ := Aside0.mk (below_step ZB hb); clear BK314; clear BK315; clear HB; have HO318 := n0_; have BK314 := n1_; have BK315 := n2_; have HB := n3_; clear n0_ n1_ n2_ n3_; clear hb ho25) | ((with_reducible refine gate_dst (N := 20) rfl ?_); refine Kd.R_lit (Kd.int .i64) _ 2 ?hg (N := 20) ?hd (xs := ([] : List Int)) (inner := []) (ok := fun _ => True) (okp := fun _ => True) ?hr ?hp (fun _ hk => hk) trivial (Below.refl _ _) (Nat.le_refl _) (by simp) ?_; (case hd => rfl); (case hg => rfl); (case hr => first | (go_simp; done) | (go_simp; rfl)); (case hp => exact (Reps.none _ _)); intro v320 w26 ho27 hb hg_ hnew_; clear hg_ hnew_; (first | rw [← Ny319.out] at ho27 | (simp only [Int.reduceToNat] at ho27; rw [← Ny319.out] at ho27)); have n0_ := Aside0.mk (Kd.R_elder' (ZR HO318) (Kd.R_base ho27) hb); have n1_ := Aside0.mk (Kd.R_lower (Kd.R_new' ho27 (Kd.R_lt (ZR HO318))) (below_size ZB)); have n2_ := ZL BK314 hb; have n3_ := ZL BK315 hb; have n4_ := Aside0.mk (below_step ZB hb); clear HO318; clear BK314; clear BK315; clear HB; have HO318 := n0_; have HO321 := n1_; have BK314 := n2_; have BK315 := n3_; have HB := n4_; clear n0_ n1_ n2_ n3_ n4_; clear hb ho27; obtain ⟨Ao28, co28, eo28⟩ := Kd.R_slice HO321.out; subst eo28; obtain ⟨Ao29, co29, eo29⟩ := Kd.R_slice HO318.out; subst eo29) | ((with_reducible refine gate_dst (N := 8) rfl ?_); refine box_event ?hg (N := 8) ?hd (cs := #[.int .i64 0, .slice none 0 0, .slice none 0 0]) (t := 29) ?hr ?_; (case hd => rfl); (case hg => rfl); (case hr => first | (go_simp; done) | (go_simp; rfl)); intro gb322 hg w30 hbox hb; have n0_ := Aside0.mk (Kd.R_below (ZR HO318) hb); have n1_ := Aside0.mk (Kd.R_below (ZR HO321) hb); have n2_ := ZL BK314 hb; have n3_ := ZL BK315 hb; have n4_ := Aside0.mk (below_step ZB hb); have n5_ := Aside0.mk (hbox); have n6_ := Aside0.mk ((ZG hg : w.heap.size ≤ gb322)); have n7_ := Aside0.mk ((ZG hg : w.heap.size ≤ gb322)); have n8_ := Aside0.mk ((ZN hg BK314 : gb314 ≠ gb322)); have n9_ := Aside0.mk ((ZM hg BK314 : gb322 ≠ gb314)); have n10_ := Aside0.mk ((ZN hg BK315 : gb315 ≠ gb322)); have n11_ := Aside0.mk ((ZM hg BK315 : gb322 ≠ gb315)); clear HO318; clear HO321; clear BK314; clear BK315; clear HB; have HO318 := n0_; have HO321 := n1_; have BK314 := n2_; have BK315 := n3_; have HB := n4_; have BK322 := n5_; have GW322 := n6_; have GE322 := n7_; have NB314_322 := n8_; have NB322_314 := n9_; have NB315_322 := n10_; have NB322_315 := n11_; clear n0_ n1_ n2_ n3_ n4_ n5_ n6_ n7_ n8_ n9_ n10_ n11_; clear hb hbox hg; have hnb31 := NB322_314.out; have hnc31 := NB314_322.out; have hnb32 := NB322_315.out; have hnc32 := NB315_322.out; obtain ⟨hcz33_0, hcz33_1, hcz33_2, hfz33_0, hfz33_1, hfz33_2⟩ := ZD3 BK322; have hnb34 := NB314_315.out; have hnc34 := NB315_314.out; obtain ⟨hcz35_0, hcz35_1, hcz35_2, hfz35_0, hfz35_1, hfz35_2⟩ := ZD3 BK314; have p323 : 0 ≤ (0 : Int) := (by omega); have q323 : 0 < (l0_1.length : Int) := of_decide_eq_true (by first | (with_reducible assumption) | assumption); obtain ⟨ad323, e323, hx323_0⟩ := Kd.at_int HR0_1.out 0 p323 q323; cases e323; have qi323 : (0 < l0_1.length) = True := eq_true (by omega); (try rw [show ((0 : Int)).toNat = 0 from rfl] at hx323_0); (try rw [Addr.add_zero'] at hx323_0); have hn323_0 : ad323.block ≠ gb322 := Nat.ne_of_lt (Nat.lt_of_lt_of_le (by have := World.block_lt_of_cell? _ _ hx323_0; first | rwa [add_block] at this | exact this) GW322.out); have hn323_1 : ad323.block ≠ gb322 := Nat.ne_of_lt (Nat.lt_of_lt_of_le (by have := World.block_lt_of_cell? _ _ hx323_0; first | rwa [add_block] at this | exact this) GW322.out); have hn323_2 : ad323.block ≠ gb322 := Nat.ne_of_lt (Nat.lt_of_lt_of_le (by have := World.block_lt_of_cell? _ _ hx323_0; first | rwa [add_block] at this | exact this) GW322.out); replace hx323_0 := (HB.out.cell (World.block_lt_of_cell? w _ hx323_0)).trans hx323_0; replace hx323_0 := (cell_far (p := ⟨gb322, 0, none⟩) (by first | (rw [add_block]; exact hn323_0) | (show (Addr.add _ _).block ≠ _; rw [add_block]; exact hn323_0) | exact hn323_0) (.int .i64 a0_0)).trans hx323_0; replace hx323_0 := (cell_far (p := ⟨gb322, 1, none⟩) (by first | (rw [add_block]; exact hn323_1) | (show (Addr.add _ _).block ≠ _; rw [add_block]; exact hn323_1) | exact hn323_1) (.slice Ao29 y316.length co29)).trans hx323_0; replace hx323_0 := (cell_far (p := ⟨gb322, 2, none⟩) (by first | (rw [add_block]; exact hn323_2) | (show (Addr.add _ _).block ≠ _; rw [add_block]; exact hn323_2) | exact hn323_2) (.slice Ao28 y319.length co28)).trans hx323_0; clear hn323_0; clear hn323_1; clear hn323_2; replace p323 := eq_true p323; replace q323 := eq_true q323) | ((with_reducible refine gate_callee (f := 99) rfl ?_); refine goesL_ (some 32) rfl rfl Try.func99 (by kernel_rfl) rfl #[.int .i64 a0_0, .int .i64 (wrap64 ((rd l0_1 0) - a1))] rfl ZA ?_; (with_reducible refine (spec_l01Mod.calls a0_0 (wrap64 ((rd l0_1 0) - a1)) t324 _ A20.out).mono ?_); rintro e w' ⟨rfl, ⟨nd, rfl⟩⟩; refine ⟨_, rfl, ?_⟩))
   go_loopg [9, 10, 11] k (fun kq v9 v10 v11 w' => ∃ (x9_1 : Int) (x10_1 : Int) (x11_1 : Int) (x316000_1 : Int) (x323001_1 : List Int) (x323002_1 : List Int) (u323001 : Value) (u323002 : Value), v9 = .int .i64 x9_1 ∧ v10 = .int .i64 x10_1 ∧ v11 = .int .i64 x11_1 ∧ Aside0 (spec_l08Step.l0 kq a1 a0_0 (l0_1.length : Int) x9_1 x10_1 x11_1 a0_0 l0_1 l0_2 a0_0 x323001_1 x323002_1 = some (r1, r2, r3, r4)) ∧ Aside0 (kq ≤ k) ∧ Aside0 (Kd.R (Kd.int .i64) 2 w' w.heap.size (fun k_ => some k_ ≠ (u323002 : Value).ownBlock) u323001 x323001_1) ∧ Aside0 (Kd.R (Kd.int .i64) 2 w' w.heap.size (fun k_ => some k_ ≠ (u323001 : Value).ownBlock) u323002 x323002_1) ∧ Aside0 (w'.heap[gb314]? = some (.cells #[.int .i64 a0_0, (.slice (some ad323) l0_1.length c0_1), (.slice A0_2 l0_2.length c0_2)] 29 (0, 0))) ∧ Aside0 (w'.heap[gb315]? = some (.cells #[.int .i64 x316000_1, (.slice none 0 0), (.slice none 0 0)] 29 (0, 0))) ∧ Aside0 (w'.heap[gb322]? = some (.cells #[.int .i64 a0_0, u323001, u323002] 29 (0, 0))) ∧ Aside0 (Below w.heap.size w w'))
   case atStart => exact ⟨(t324), (0), (0), (0), (y316), (y319), (.slice Ao29 y316.length co29), (.slice Ao28 y319.length co28), (by first | rfl | (simp; done) | (simp [*]; done)), (by first | rfl | (simp; done) | (simp [*]; done)), (by first | rfl | (simp; done) | (simp [*]; done)), H', ⟨Nat.le_refl _⟩, ⟨by refine ZQ ?_; exact Kd.R_mono (Kd.R_far (p := ⟨gb322, 2, none⟩) (Kd.R_far (p := ⟨gb322, 1, none⟩) (Kd.R_far (p := ⟨gb322, 0, none⟩) (Kd.R_types HO318.out BK322.out (by decide)) (fun _ hk => hk.2) (.int .i64 a0_0)) (fun _ hk => hk.2) (.slice Ao29 y316.length co29)) (fun _ hk => hk.2) (.slice Ao28 y319.length co28)) (fun _ hk => hk.1.2)⟩, ⟨by refine ZQ ?_; exact Kd.R_mono (Kd.R_far (p := ⟨gb322, 2, none⟩) (Kd.R_far (p := ⟨gb322, 1, none⟩) (Kd.R_far (p := ⟨gb322, 0, none⟩) (Kd.R_types HO321.out BK322.out (by decide)) (fun _ hk => hk.2) (.int .i64 a0_0)) (fun _ hk => hk.2) (.slice Ao29 y316.length co29)) (fun _ hk => hk.2) (.slice Ao28 y319.length co28)) (fun _ hk => hk.1.2)⟩, ⟨by refine ZS ?_; refine blk_far ?_ NB314_322.out _; refine ZS ?_; refine blk_far ?_ NB314_322.out _; refine ZS ?_; refine blk_far ?_ NB314_322.out _; refine ZS ?_; exact BK314.out⟩, ⟨by refine ZS ?_; refine blk_far ?_ NB315_322.out _; refine ZS ?_; refine blk_far ?_ NB315_322.out _; refine ZS ?_; refine blk_far ?_ NB315_322.out _; refine ZS ?_; exact BK315.out⟩, ⟨by refine ZS ?_; refine blk_put (cs := #[.int .i64 a0_0, .slice Ao29 y316.length co29, .slice none 0 0]) ?_ 2 _ rfl; refine ZS ?_; refine blk_put (cs := #[.int .i64 a0_0, .slice none 0 0, .slice none 0 0]) ?_ 1 _ rfl; refine ZS ?_; refine blk_put (cs := #[.int .i64 0, .slice none 0 0, .slice none 0 0]) ?_ 0 _ rfl; refine ZS ?_; exact BK322.out⟩, ⟨ZB⟩⟩
   case round =>
    clear H'
    try clear c1
    try clear p2
    try clear c3
    try clear c3b0
    try clear c3b1
    try clear p3
    try clear q3
    try clear hx3
    try clear qi3
    try clear c6
    try clear p6
    try clear c9
    try clear c14
    try clear c15
    try clear c17
    try clear c19
    try clear c19b0
    try clear c19b1
    try clear c31
    try clear c32
    try clear p32
    try clear q32
    try clear hx32
    try clear qi32
    try clear c34
    try clear hcz16_0
    try clear hcz16_1
    try clear hcz16_2
    try clear hcz18_0
    try clear hcz18_1
    try clear hcz18_2
    try clear hcz33_0
    try clear hcz33_1
    try clear hcz33_2
    try clear hcz35_0
    try clear hcz35_1
    try clear hcz35_2
    try clear hfz16_0
    try clear hfz16_1
    try clear hfz16_2
    try clear hfz18_0
    try clear hfz18_1
    try clear hfz18_2
    try clear hfz33_0
    try clear hfz33_1
    try clear hfz33_2
    try clear hfz35_0
    try clear hfz35_1
    try clear hfz35_2
    try clear hx323_0
    try clear p323
    try clear q323
    obtain ⟨x9_1, x10_1, x11_1, x316000_1, x323001_1, x323002_1, u323001, u323002, rfl, rfl, rfl, HA, HK1, HO_323001, HO_323002, BK314, BK315, BK322, HB⟩ := hrel
    cases gk with
    | zero => exact absurd HA.out (by simp [spec_l08Step.l0])
    | succ k1 =>
     have H := HA.out
     clear HA
     simp only [spec_l08Step.l0] at H
     by_cases c36 : (wrap64 (x11_1 + 1)) < (l0_1.length : Int)
     ·rw [if_pos c36] at H
      have c36b0 : decide ((wrap64 (x11_1 + 1)) < (l0_1.length : Int)) = true := decide_eq_true c36
      clear c36
      by_cases c37 : x9_1 = 0
      ·rw [if_pos c37] at H
       have c37b0 : (x9_1 == 0) = true := beq_iff_eq.mpr c37
       have c37b1 : (x9_1 != 0) = false := bne_eq_false_iff_eq.mpr c37
       clear c37
       simp only [Option.some.injEq, Prod.mk.injEq] at H
       obtain ⟨rfl, rfl, rfl, rfl⟩ := H
       have hnb38 := NB322_314.out
       have hnc38 := NB314_322.out
       have hnb39 := NB322_315.out
       have hnc39 := NB315_322.out
       obtain ⟨hcz40_0, hcz40_1, hcz40_2, hfz40_0, hfz40_1, hfz40_2⟩ := ZD3 BK322
       have hnb41 := NB315_314.out
       have hnc41 := NB314_315.out
       obtain ⟨hcz42_0, hcz42_1, hcz42_2, hfz42_0, hfz42_1, hfz42_2⟩ := ZD3 BK315
       obtain ⟨Ao43, co43, eo43⟩ := Kd.R_slice HO_323001.out
       subst eo43
       obtain ⟨Ao44, co44, eo44⟩ := Kd.R_slice HO_323002.out
       subst eo44
       go_wp2
       refine bodyPost_ret (results_ct rfl _ _ gb315 29 #[.int .i64 a0_0, .slice Ao43 x323001_1.length co43, .slice Ao44 x323002_1.length co44] (0, 0) _ rfl (by refine ZS ?_; refine blk_put (cs := #[.int .i64 a0_0, .slice Ao43 x323001_1.length co43, .slice none 0 0]) ?_ 2 _ rfl; refine ZS ?_; refine blk_put (cs := #[.int .i64 a0_0, .slice none 0 0, .slice none 0 0]) ?_ 1 _ rfl; refine ZS ?_; refine blk_put (cs := #[.int .i64 x316000_1, .slice none 0 0, .slice none 0 0]) ?_ 0 _ rfl; refine ZS ?_; exact BK315.out) Try.underlying29 rfl (by kernel_rfl)) rfl ?_
       exact ⟨_, _, by first | rfl | (simp [errW_none, errW_some] <;> rfl) | (simp [*, errW_none, errW_some] <;> rfl), by refine ZQ ?_; exact Kd.R_mono (Kd.R_far (p := ⟨gb315, 2, none⟩) (Kd.R_far (p := ⟨gb315, 1, none⟩) (Kd.R_far (p := ⟨gb315, 0, none⟩) (Kd.R_types HO_323001.out BK315.out (by decide)) (fun _ hk => hk.2) (.int .i64 a0_0)) (fun _ hk => hk.2) (.slice Ao43 x323001_1.length co43)) (fun _ hk => hk.2) (.slice Ao44 x323002_1.length co44)) (fun _ hk => hk.1), by refine ZQ ?_; exact Kd.R_mono (Kd.R_far (p := ⟨gb315, 2, none⟩) (Kd.R_far (p := ⟨gb315, 1, none⟩) (Kd.R_far (p := ⟨gb315, 0, none⟩) (Kd.R_types HO_323002.out BK315.out (by decide)) (fun _ hk => hk.2) (.int .i64 a0_0)) (fun _ hk => hk.2) (.slice Ao43 x323001_1.length co43)) (fun _ hk => hk.2) (.slice Ao44 x323002_1.length co44)) (fun _ hk => hk.1), ZB⟩
      ·rw [if_neg c37] at H
       have c37b0 : (x9_1 == 0) = false := beq_eq_false_iff_ne.mpr c37
       have c37b1 : (x9_1 != 0) = true := bne_iff_ne.mpr c37
       obtain ⟨ji45, hji45⟩ : ∃ j_ : Int, (wrap64 (x11_1 + 1)) = j_ := ⟨_, rfl⟩
       replace H : (if 0 ≤ (ji45) then (if (ji45) < (l0_2.length : Int) then ((spec_l01Inverse.f k1 a0_0 x9_1).bind fun t326 => (if a0_0 = 0 then (none) else (if x323001_1.length < 17592186044416 then ((some (x323001_1 ++ [Int.tmod (wrap64 ((wrap64 (x9_1 + (Int.tmod (wrap64 ((rd l0_2 (ji45)) * t326)) a0_0))) + a1)) a0_0] : List Int)).bind fun y327 => (if x11_1 = 0 then (if 0 < (l0_2.length : Int) then (if x323002_1.length < 17592186044416 then (if (ji45) < (l0_1.length : Int) then ((spec_l01Mod.f a0_0 (wrap64 ((wrap64 ((rd l0_1 (ji45)) - a1)) - (Int.tmod (wrap64 ((rd l0_2 (ji45)) * t326)) a0_0)))).bind fun t335 => (spec_l08Step.l0 k1 a1 a0_0 (l0_1.length : Int) t335 (Int.tmod (wrap64 ((rd l0_2 (ji45)) * t326)) a0_0) ji45 a0_0 l0_1 l0_2 a0_0 y327 (x323002_1 ++ [Int.tmod (wrap64 ((rd l0_2 0) * x9_1)) a0_0]))) else (none)) else (none)) else (none)) else (if x323002_1.length < 17592186044416 then (if (ji45) < (l0_1.length : Int) then ((spec_l01Mod.f a0_0 (wrap64 ((wrap64 ((rd l0_1 (ji45)) - a1)) - (Int.tmod (wrap64 ((rd l0_2 (ji45)) * t326)) a0_0)))).bind fun t340 => (spec_l08Step.l0 k1 a1 a0_0 (l0_1.length : Int) t340 (Int.tmod (wrap64 ((rd l0_2 (ji45)) * t326)) a0_0) ji45 a0_0 l0_1 l0_2 a0_0 y327 (x323002_1 ++ [Int.tmod (wrap64 (x9_1 * x10_1)) a0_0]))) else (none)) else (none)))) else (none)))) else (none)) else (none)) = some (r1, r2, r3, r4) := by first | (rw [hji45] at H; exact H) | (simp only [hji45] at H ⊢; exact H)
       (try rw [hji45] at c36b0)
       have hji45w : (IntKind.i64.wrap (x11_1 + 1)) = ji45 := (i64_w _).trans hji45
       by_cases c46 : 0 ≤ (ji45)
       ·rw [if_pos c46] at H
        have c46b0 : decide (0 ≤ (ji45)) = true := decide_eq_true c46
        clear c46
        by_cases c47 : (ji45) < (l0_2.length : Int)
        ·rw [if_pos c47] at H
         have c47b0 : decide ((ji45) < (l0_2.length : Int)) = true := decide_eq_true c47
         clear c47
         replace H := Option.bind_eq_some_iff.mp H
         obtain ⟨t326, A480, H⟩ := H
         replace H : (if a0_0 = 0 then (none) else (if x323001_1.length < 17592186044416 then ((some (x323001_1 ++ [Int.tmod (wrap64 ((wrap64 (x9_1 + (Int.tmod (wrap64 ((rd l0_2 (ji45)) * t326)) a0_0))) + a1)) a0_0] : List Int)).bind fun y327 => (if x11_1 = 0 then (if 0 < (l0_2.length : Int) then (if x323002_1.length < 17592186044416 then (if (ji45) < (l0_1.length : Int) then ((spec_l01Mod.f a0_0 (wrap64 ((wrap64 ((rd l0_1 (ji45)) - a1)) - (Int.tmod (wrap64 ((rd l0_2 (ji45)) * t326)) a0_0)))).bind fun t335 => (spec_l08Step.l0 k1 a1 a0_0 (l0_1.length : Int) t335 (Int.tmod (wrap64 ((rd l0_2 (ji45)) * t326)) a0_0) ji45 a0_0 l0_1 l0_2 a0_0 y327 (x323002_1 ++ [Int.tmod (wrap64 ((rd l0_2 0) * x9_1)) a0_0]))) else (none)) else (none)) else (none)) else (if x323002_1.length < 17592186044416 then (if (ji45) < (l0_1.length : Int) then ((spec_l01Mod.f a0_0 (wrap64 ((wrap64 ((rd l0_1 (ji45)) - a1)) - (Int.tmod (wrap64 ((rd l0_2 (ji45)) * t326)) a0_0)))).bind fun t340 => (spec_l08Step.l0 k1 a1 a0_0 (l0_1.length : Int) t340 (Int.tmod (wrap64 ((rd l0_2 (ji45)) * t326)) a0_0) ji45 a0_0 l0_1 l0_2 a0_0 y327 (x323002_1 ++ [Int.tmod (wrap64 (x9_1 * x10_1)) a0_0]))) else (none)) else (none)))) else (none))) = some (r1, r2, r3, r4) := H
         have A48 := Aside0.mk A480
         clear A480
         by_cases c49 : a0_0 = 0
         ·rw [if_pos c49] at H
          exact absurd H (by simp)
         ·rw [if_neg c49] at H
          have c49b0 : (a0_0 == 0) = false := beq_eq_false_iff_ne.mpr c49
          have c49b1 : (a0_0 != 0) = true := bne_iff_ne.mpr c49
          by_cases c50 : x323001_1.length < 17592186044416
          ·rw [if_pos c50] at H
           have LMc50 := Aside0.mk c50
           clear c50
           obtain ⟨y327, hy327⟩ : ∃ y_ : List Int, y_ = (x323001_1 ++ [Int.tmod (wrap64 ((wrap64 (x9_1 + (Int.tmod (wrap64 ((rd l0_2 (ji45)) * t326)) a0_0))) + a1)) a0_0]) := ⟨_, rfl⟩
           replace H : (if x11_1 = 0 then (if 0 < (l0_2.length : Int) then (if x323002_1.length < 17592186044416 then (if (ji45) < (l0_1.length : Int) then ((spec_l01Mod.f a0_0 (wrap64 ((wrap64 ((rd l0_1 (ji45)) - a1)) - (Int.tmod (wrap64 ((rd l0_2 (ji45)) * t326)) a0_0)))).bind fun t335 => (spec_l08Step.l0 k1 a1 a0_0 (l0_1.length : Int) t335 (Int.tmod (wrap64 ((rd l0_2 (ji45)) * t326)) a0_0) ji45 a0_0 l0_1 l0_2 a0_0 y327 (x323002_1 ++ [Int.tmod (wrap64 ((rd l0_2 0) * x9_1)) a0_0]))) else (none)) else (none)) else (none)) else (if x323002_1.length < 17592186044416 then (if (ji45) < (l0_1.length : Int) then ((spec_l01Mod.f a0_0 (wrap64 ((wrap64 ((rd l0_1 (ji45)) - a1)) - (Int.tmod (wrap64 ((rd l0_2 (ji45)) * t326)) a0_0)))).bind fun t340 => (spec_l08Step.l0 k1 a1 a0_0 (l0_1.length : Int) t340 (Int.tmod (wrap64 ((rd l0_2 (ji45)) * t326)) a0_0) ji45 a0_0 l0_1 l0_2 a0_0 y327 (x323002_1 ++ [Int.tmod (wrap64 (x9_1 * x10_1)) a0_0]))) else (none)) else (none))) = some (r1, r2, r3, r4) := by first | (rw [hy327]; with_reducible exact H) | (have H2_ := (Option.bind_some _ _).symm.trans H; rw [hy327]; with_reducible exact H2_) | (have H2_ := (Option.bind_some _ _).symm.trans H; with_reducible exact H2_) | with_reducible exact H | (rw [hy327]; exact H) | exact H
           have Ny327 := Aside0.mk hy327
           clear hy327
           by_cases c51 : x11_1 = 0
           ·rw [if_pos c51] at H
            have c51b0 : (x11_1 == 0) = true := beq_iff_eq.mpr c51
            have c51b1 : (x11_1 != 0) = false := bne_eq_false_iff_eq.mpr c51
            clear c51
            by_cases c52 : 0 < (l0_2.length : Int)
            ·rw [if_pos c52] at H
             have c52b0 : decide (0 < (l0_2.length : Int)) = true := decide_eq_true c52
             have c52b1 : decide (0 < l0_2.length) = true := decide_eq_true (by omega)
             clear c52
             by_cases c53 : x323002_1.length < 17592186044416
             ·rw [if_pos c53] at H
              have LMc53 := Aside0.mk c53
              clear c53
              obtain ⟨y331, hy331⟩ : ∃ y_ : List Int, y_ = (x323002_1 ++ [Int.tmod (wrap64 ((rd l0_2 0) * x9_1)) a0_0]) := ⟨_, rfl⟩
              replace H : (if (ji45) < (l0_1.length : Int) then ((spec_l01Mod.f a0_0 (wrap64 ((wrap64 ((rd l0_1 (ji45)) - a1)) - (Int.tmod (wrap64 ((rd l0_2 (ji45)) * t326)) a0_0)))).bind fun t335 => (spec_l08Step.l0 k1 a1 a0_0 (l0_1.length : Int) t335 (Int.tmod (wrap64 ((rd l0_2 (ji45)) * t326)) a0_0) ji45 a0_0 l0_1 l0_2 a0_0 y327 y331)) else (none)) = some (r1, r2, r3, r4) := by first | (rw [hy331]; with_reducible exact H) | (have H2_ := (Option.bind_some _ _).symm.trans H; rw [hy331]; with_reducible exact H2_) | (have H2_ := (Option.bind_some _ _).symm.trans H; with_reducible exact H2_) | with_reducible exact H | (rw [hy331]; exact H) | exact H
              have Ny331 := Aside0.mk hy331
              clear hy331
              by_cases c54 : (ji45) < (l0_1.length : Int)
              ·rw [if_pos c54] at H
               have c54b0 : decide ((ji45) < (l0_1.length : Int)) = true := decide_eq_true c54
               clear c54
               replace H := Option.bind_eq_some_iff.mp H
               obtain ⟨t335, A550, H⟩ := H
               replace H : (spec_l08Step.l0 k1 a1 a0_0 (l0_1.length : Int) t335 (Int.tmod (wrap64 ((rd l0_2 (ji45)) * t326)) a0_0) ji45 a0_0 l0_1 l0_2 a0_0 y327 y331) = some (r1, r2, r3, r4) := H
               have A55 := Aside0.mk A550
               clear A550
               have H' := Aside0.mk H
               clear H
               try go_wp2
               have n0_ := Aside0.mk (Kd.R_drew HO_323001.out)
               have n1_ := Aside0.mk (Kd.R_drew HO_323002.out)
               have n2_ := Aside0.mk (blk_drew BK314.out)
               have n3_ := Aside0.mk (blk_drew BK315.out)
               have n4_ := Aside0.mk (blk_drew BK322.out)
               have n5_ := Aside0.mk (below_drew1 HB.out)
               clear HO_323001
               clear HO_323002
               clear BK314
               clear BK315
               clear BK322
               clear HB
               have HO_323001 := n0_
               have HO_323002 := n1_
               have BK314 := n2_
               have BK315 := n3_
               have BK322 := n4_
               have HB := n5_
               clear n0_ n1_ n2_ n3_ n4_ n5_
               have p325 : 0 ≤ ((ji45) : Int) := of_decide_eq_true (by first | (with_reducible assumption) | assumption)
               have q325 : (ji45) < (l0_2.length : Int) := of_decide_eq_true (by first | (with_reducible assumption) | assumption)
               obtain ⟨ad325, e325, hx325_0⟩ := Kd.at_int HR0_2.out (ji45) p325 q325
               have hw325_0 := hx325_0
               cases e325
               replace hx325_0 := (HB.out.cell (World.block_lt_of_cell? w _ hx325_0)).trans hx325_0
               replace p325 := eq_true p325
               replace q325 := eq_true q325
               refine start_ (n := 13) (S := fun w' => w'.cell? ⟨gb314, 0, none⟩ = some (.int .i64 a0_0) ∧ w'.cell? ⟨gb314, 1, none⟩ = some (.slice (some ad323) l0_1.length c0_1) ∧ w'.cell? ⟨gb314, 2, none⟩ = some (.slice (some ad325) l0_2.length c0_2) ∧ w'.cell? (ad325.add ((ji45)).toNat) = some (.int .i64 (rd l0_2 (ji45)))) (ds := []) #[false, false, false, false, false, false, false, false, false, false, false, false, false] (by kernel_rfl) rfl rfl ⟨(blk_cell BK314.out 0).trans rfl, (blk_cell BK314.out 1).trans rfl, (blk_cell BK314.out 2).trans rfl, ((HB.out.cell (World.block_lt_of_cell? w _ hw325_0)).trans hw325_0)⟩ (fun hHeld => ?_); refine with_tabW spec_l08Step.tab11 spec_l08Step.bits11 (fun HT_ HW_ => ?_)
               generalize wr.drew = w56 at HO_323001 HO_323002 BK314 BK315 BK322 HB hx325_0 hHeld ⊢
               refine Zpt 0 (some 42) (h := ?_)
               refine Zpt 2 (some 44) (h := ?_)
               refine Zpt 3 (some 45) (h := ?_)
               refine Zpt 6 (some 48) (h := ?_)
               refine Zpt 7 (some 49) (h := ?_)
               refine Zpt 10 (some 52) (h := ?_)
               refine ZtW4 1 (some 43) hHeld (h := ?_)
               refine Zpt 4 (some 46) (h := ?_)
               refine ZtW4 5 (some 47) hHeld (h := ?_)
               refine one_ (i := 8) (N := some 50) #[true, true, true, true, true, true, true, true, true, false, true, false, false] rfl rfl (one_of HT_.out (by kernel_rfl)) (by decide) (fun K hK => ?_)
               refine goes_ Try.func100 (by kernel_rfl) rfl #[.int .i64 a0_0, .int .i64 x9_1] (by rfl) rfl rfl ZA ?_
               with_reducible refine (spec_l01Inverse.calls k1 a0_0 x9_1 t326 _ A48.out).mono ?_
               rintro e w' ⟨rfl, ⟨nd, rfl⟩⟩
               refine ⟨_, rfl, ?_⟩
               refine hK.out _ _ ⟨(blk_cell BK314.out 0).trans rfl, (blk_cell BK314.out 1).trans rfl, (blk_cell BK314.out 2).trans rfl, ((HB.out.cell (World.block_lt_of_cell? w _ hw325_0)).trans hw325_0)⟩ (fun hHeld => ?_)
               clear hK K
               refine norm_ (a' := ?_) ?_ ?_
               rotate_left
               ·show Act.put _ (some 50) _ = _
                simp only [Act.put, List.setIfInBounds_toArray, List.set_cons_zero, List.set_cons_succ, i64_w, i32_w]
                rfl
               refine Zpt 9 (some 51) (h := ?_)
               refine Zpt 11 (some 53) (h := ?_)
               refine Zpt 12 (some 12) (h := ?_)
               refine done_ (done_of HT_.out (by kernel_rfl)) ?_
               try go_wp2
               (try (rw [drewN_self w56]; generalize hq_ : World.drewN w56 _ = w56; have n0_ : Aside0 (Kd.R (Kd.int .i64) 2 w56 w.heap.size (fun k_ => some k_ ≠ (u323002 : Value).ownBlock) u323001 x323001_1) := ⟨by rw [← hq_]; exact (ZR HO_323001)⟩; have n1_ : Aside0 (Kd.R (Kd.int .i64) 2 w56 w.heap.size (fun k_ => some k_ ≠ (u323001 : Value).ownBlock) u323002 x323002_1) := ⟨by rw [← hq_]; exact (ZR HO_323002)⟩; have n2_ : Aside0 (w56.heap[gb314]? = some (.cells #[.int .i64 a0_0, .slice (some ad323) l0_1.length c0_1, .slice (some ad325) l0_2.length c0_2] 29 (0, 0))) := ⟨by rw [← hq_]; exact (ZK BK314)⟩; have n3_ : Aside0 (w56.heap[gb315]? = some (.cells #[.int .i64 x316000_1, .slice none 0 0, .slice none 0 0] 29 (0, 0))) := ⟨by rw [← hq_]; exact (ZK BK315)⟩; have n4_ : Aside0 (w56.heap[gb322]? = some (.cells #[.int .i64 a0_0, u323001, u323002] 29 (0, 0))) := ⟨by rw [← hq_]; exact (ZK BK322)⟩; have n5_ : Aside0 (Below w.heap.size w w56) := ⟨by rw [← hq_]; exact ZB⟩; clear HO_323001 HO_323002 BK314 BK315 BK322 HB hq_; have HO_323001 := n0_; have HO_323002 := n1_; have BK314 := n2_; have BK315 := n3_; have BK322 := n4_; have HB := n5_; clear n0_ n1_ n2_ n3_ n4_ n5_))
               (try (obtain ⟨hcy314_0, hcy314_1, hcy314_2, hfy314_0, hfy314_1, hfy314_2⟩ := ZD3 BK314))
               (try (obtain ⟨hcy315_0, hcy315_1, hcy315_2, hfy315_0, hfy315_1, hfy315_2⟩ := ZD3 BK315))
               (try (obtain ⟨hcy322_0, hcy322_1, hcy322_2, hfy322_0, hfy322_1, hfy322_2⟩ := ZD3 BK322))
               have n0_ := Aside0.mk (Kd.R_drew HO_323001.out)
               have n1_ := Aside0.mk (Kd.R_drew HO_323002.out)
               have n2_ := Aside0.mk (blk_drew BK314.out)
               have n3_ := Aside0.mk (blk_drew BK315.out)
               have n4_ := Aside0.mk (blk_drew BK322.out)
               have n5_ := Aside0.mk (below_drew1 HB.out)
               clear HO_323001
               clear HO_323002
               clear BK314
               clear BK315
               clear BK322
               clear HB
               have HO_323001 := n0_
               have HO_323002 := n1_
               have BK314 := n2_
               have BK315 := n3_
               have BK322 := n4_
               have HB := n5_
               clear n0_ n1_ n2_ n3_ n4_ n5_
               refine start_ (n := 13) (S := fun w' => w'.cell? ⟨gb322, 0, none⟩ = some (.int .i64 a0_0) ∧ w'.cell? ⟨gb322, 1, none⟩ = some (u323001) ∧ w'.cell? ⟨gb322, 2, none⟩ = some (u323002)) (ds := [12]) #[false, false, false, false, false, false, false, false, false, false, false, false, false] (by kernel_rfl) rfl rfl ⟨(blk_cell BK322.out 0).trans rfl, (blk_cell BK322.out 1).trans rfl, (blk_cell BK322.out 2).trans rfl⟩ (fun hHeld => ?_); refine with_tabW spec_l08Step.tab12 spec_l08Step.bits12 (fun HT_ HW_ => ?_)
               generalize w56.drew = w57 at HO_323001 HO_323002 BK314 BK315 BK322 HB hHeld ⊢
               refine Zpt 0 (some 54) (h := ?_)
               refine Zpt 2 (some 56) (h := ?_)
               refine Zpt 3 (some 57) (h := ?_)
               refine Zpt 4 (some 58) (h := ?_)
               refine Zpt 5 (some 59) (h := ?_)
               refine Zpt 6 (some 60) (h := ?_)
               refine Zpt 7 (some 61) (h := ?_)
               refine Zpt 8 (some 62) (h := ?_)
               refine ZtW3 1 (some 55) hHeld (h := ?_)
               refine one_ (i := 9) (N := some 63) #[true, true, true, true, true, true, true, true, true, true, false, false, false] rfl rfl (one_of HT_.out (by kernel_rfl)) (by decide) (fun K hK => ?_)
               refine value_ (w1 := ?_) (v := ?_) (by rfl) rfl ?_ ?_
               rotate_left 2
               ·go_simp
                constructor
                ·rfl
                ·rfl
               refine hK.out _ _ ⟨(blk_cell (blk_alloc BK322.out _) 0).trans rfl, (blk_cell (blk_alloc BK322.out _) 1).trans rfl, (blk_cell (blk_alloc BK322.out _) 2).trans rfl⟩ (fun hHeld => ?_)
               clear hK K
               refine norm_ (a' := ?_) ?_ ?_
               rotate_left
               ·show Act.put _ (some 63) _ = _
                simp only [Act.put, List.setIfInBounds_toArray, List.set_cons_zero, List.set_cons_succ, i64_w, i32_w]
                rfl
               refine one_ (i := 10) (N := some 64) #[true, true, true, true, true, true, true, true, true, true, true, false, false] rfl rfl (one_of HT_.out (by kernel_rfl)) (by decide) (fun K hK => ?_)
               refine Kd.R_append_step (Kd.int .i64) (w0 := w) w.heap.size (by rfl) (.tmp 55) (.tmp 63) 22 2 (.int .i64 0) 8 rfl Try.underlying22 info2 rfl (by decide) (by omega) u323001 x323001_1 (Int.tmod (wrap64 ((wrap64 (x9_1 + (Int.tmod (wrap64 ((rd l0_2 (ji45)) * t326)) a0_0))) + a1)) a0_0) [.int .i64 (Int.tmod (wrap64 ((wrap64 (x9_1 + (Int.tmod (wrap64 ((rd l0_2 (ji45)) * t326)) a0_0))) + a1)) a0_0)] (fun k_ => some k_ ≠ (u323002 : Value).ownBlock) (fun _ => False) rfl rfl ?aP (fun _ hk => hk.elim) ?aF ?aO ?aB ?aS ?aL ?_
               (case aP => exact rfl)
               (case aB => exact ZB)
               (case aF => exact (fun k_ hk => Kd.fresh' (Kd.R_lt (ZR HO_323002)) k_ hk))
               (case aO => exact (ZR HO_323001))
               (case aS => exact (below_size ZB))
               (case aL => have := LMc50.out; omega)
               intro v328 w58 ho hb hg hat
               rw [← Ny327.out] at ho
               have n0_ := Aside0.mk (Kd.R_after (ok := (fun _ => True)) (by refine ZQ ?_; exact Kd.R_mono HO_323002.out (fun _ hk => (And.intro (trivial) (hk)))) hg hat)
               have n1_ := Aside0.mk (blk_grown (ZK BK314) hg (Kd.R_ne HO_323001.out BK314.out (by decide)))
               have n2_ := Aside0.mk (blk_grown (ZK BK315) hg (Kd.R_ne HO_323001.out BK315.out (by decide)))
               have n3_ := Aside0.mk (blk_grown (ZK BK322) hg (Kd.R_ne HO_323001.out BK322.out (by decide)))
               have n4_ := Aside0.mk (hb)
               have n5_ := Aside0.mk (ho)
               clear HO_323002
               clear BK314
               clear BK315
               clear BK322
               clear HB
               clear HO_323001
               have HO_323002 := n0_
               have BK314 := n1_
               have BK315 := n2_
               have BK322 := n3_
               have HB := n4_
               have HO329 := n5_
               clear n0_ n1_ n2_ n3_ n4_ n5_
               clear ho hb hg hat
               obtain ⟨Ao59, co59, eo59⟩ := Kd.R_slice HO329.out
               (first | subst eo59 | (injection eo59 with f1_ f2_ f3_; have f4_ := f1_.symm; have f5_ := f3_.symm; clear f1_ f2_ f3_; subst f4_; subst f5_))
               refine hK.out _ _ ⟨(blk_cell BK322.out 0).trans rfl, (blk_cell BK322.out 1).trans rfl, (blk_cell BK322.out 2).trans rfl⟩ (fun hHeld => ?_)
               clear hK K
               refine norm_ (a' := ?_) ?_ ?_
               rotate_left
               ·show Act.put _ (some 64) _ = _
                simp only [Act.put, List.setIfInBounds_toArray, List.set_cons_zero, List.set_cons_succ, i64_w, i32_w]
                rfl
               refine Zpt 11 (some 65) (h := ?_)
               refine last_ (i := 12) (N := none) #[true, true, true, true, true, true, true, true, true, true, true, true, true] rfl rfl (one_of HT_.out (by kernel_rfl)) (by decide) (fun K hK => ?_)
               have hs60 : w58.cell? ⟨gb322, 1, none⟩ = some (u323001) := (blk_cell BK322.out 1).trans rfl
               have hfs60 := blk_frozen BK322.out 1
               have hns60_0 := NB314_322.out
               have hns60_1 := NB315_322.out
               have hms60_0 := NB322_314.out
               have hms60_1 := NB322_315.out
               refine skip_ (w1 := ?_) (by rfl) rfl ?_ ?_
               rotate_left
               ·go_simp
                rfl
               refine hK.out _ _ ?_
               clear hK K
               refine done_ (done_of HT_.out (by kernel_rfl)) ?_
               try go_wp2
               have n0_ : Aside0 (Kd.R (Kd.int .i64) 2 (w58.setCell ⟨gb322, 1, none⟩ (.slice Ao59 y327.length co59)) w.heap.size (fun k_ => some k_ ≠ (.slice Ao59 y327.length co59 : Value).ownBlock) u323002 x323002_1) := ⟨by refine ZQ ?_; exact Kd.R_mono (Kd.R_far (p := ⟨gb322, 1, none⟩) (Kd.R_types HO_323002.out BK322.out (by decide)) (fun _ hk => hk.2) (.slice Ao59 y327.length co59)) (fun _ hk => hk.1.2)⟩
               have n1_ : Aside0 (Kd.R (Kd.int .i64) 2 (w58.setCell ⟨gb322, 1, none⟩ (.slice Ao59 y327.length co59)) w.heap.size (fun k_ => some k_ ≠ (u323002 : Value).ownBlock) (.slice Ao59 y327.length co59) y327) := ⟨by refine ZQ ?_; exact Kd.R_mono (Kd.R_far (p := ⟨gb322, 1, none⟩) (Kd.R_types HO329.out BK322.out (by decide)) (fun _ hk => hk.2) (.slice Ao59 y327.length co59)) (fun _ hk => hk.1)⟩
               have n2_ : Aside0 ((w58.setCell ⟨gb322, 1, none⟩ (.slice Ao59 y327.length co59)).heap[gb314]? = some (.cells #[.int .i64 a0_0, .slice (some ad323) l0_1.length c0_1, .slice (some ad325) l0_2.length c0_2] 29 (0, 0))) := ⟨by refine ZS ?_; refine blk_far ?_ NB314_322.out _; refine ZS ?_; exact BK314.out⟩
               have n3_ : Aside0 ((w58.setCell ⟨gb322, 1, none⟩ (.slice Ao59 y327.length co59)).heap[gb315]? = some (.cells #[.int .i64 x316000_1, .slice none 0 0, .slice none 0 0] 29 (0, 0))) := ⟨by refine ZS ?_; refine blk_far ?_ NB315_322.out _; refine ZS ?_; exact BK315.out⟩
               have n4_ : Aside0 ((w58.setCell ⟨gb322, 1, none⟩ (.slice Ao59 y327.length co59)).heap[gb322]? = some (.cells #[.int .i64 a0_0, .slice Ao59 y327.length co59, u323002] 29 (0, 0))) := ⟨by refine ZS ?_; refine blk_put (cs := #[.int .i64 a0_0, u323001, u323002]) ?_ 1 _ rfl; refine ZS ?_; exact BK322.out⟩
               have n5_ : Aside0 (Below w.heap.size w (w58.setCell ⟨gb322, 1, none⟩ (.slice Ao59 y327.length co59))) := ⟨ZB⟩
               (try clear HO_323002)
               (try clear HO329)
               (try clear BK314)
               (try clear BK315)
               (try clear BK322)
               (try clear HB)
               generalize (w58.setCell ⟨gb322, 1, none⟩ (.slice Ao59 y327.length co59)) = w61 at n0_ n1_ n2_ n3_ n4_ n5_ ⊢
               have HO_323002 := n0_
               have HO329 := n1_
               have BK314 := n2_
               have BK315 := n3_
               have BK322 := n4_
               have HB := n5_
               clear n0_ n1_ n2_ n3_ n4_ n5_
               have n0_ := Aside0.mk (Kd.R_drew HO_323002.out)
               have n1_ := Aside0.mk (Kd.R_drew HO329.out)
               have n2_ := Aside0.mk (blk_drew BK314.out)
               have n3_ := Aside0.mk (blk_drew BK315.out)
               have n4_ := Aside0.mk (blk_drew BK322.out)
               have n5_ := Aside0.mk (below_drew1 HB.out)
               clear HO_323002
               clear HO329
               clear BK314
               clear BK315
               clear BK322
               clear HB
               have HO_323002 := n0_
               have HO329 := n1_
               have BK314 := n2_
               have BK315 := n3_
               have BK322 := n4_
               have HB := n5_
               clear n0_ n1_ n2_ n3_ n4_ n5_
               have p330 : 0 ≤ (0 : Int) := (by omega)
               have q330 : 0 < (l0_2.length : Int) := of_decide_eq_true (by first | (with_reducible assumption) | assumption)
               obtain ⟨ad330, e330, hx330_0⟩ := Kd.at_int HR0_2.out 0 p330 q330
               have hw330_0 := hx330_0
               (try rw [show ((0 : Int)).toNat = 0 from rfl] at hw330_0)
               (try rw [show 0 * 1 = 0 from rfl] at hw330_0)
               (try rw [Addr.add_zero'] at hw330_0)
               obtain rfl : ad325 = ad330 := (by injection e330)
               have qi330 : (0 < l0_2.length) = True := eq_true (by omega)
               (try rw [show ((0 : Int)).toNat = 0 from rfl] at hx330_0)
               (try rw [Addr.add_zero'] at hx330_0)
               replace hx330_0 := (HB.out.cell (World.block_lt_of_cell? w _ hx330_0)).trans hx330_0
               replace p330 := eq_true p330
               replace q330 := eq_true q330
               refine start_ (n := 14) (S := fun w' => w'.cell? ⟨gb322, 0, none⟩ = some (.int .i64 a0_0) ∧ w'.cell? ⟨gb322, 1, none⟩ = some (.slice Ao59 y327.length co59) ∧ w'.cell? ⟨gb322, 2, none⟩ = some (u323002) ∧ w'.cell? ⟨gb314, 0, none⟩ = some (.int .i64 a0_0) ∧ w'.cell? ⟨gb314, 1, none⟩ = some (.slice (some ad323) l0_1.length c0_1) ∧ w'.cell? ⟨gb314, 2, none⟩ = some (.slice (some ad325) l0_2.length c0_2) ∧ w'.cell? ad325 = some (.int .i64 (rd l0_2 0))) (ds := [13]) #[false, false, false, false, false, false, false, false, false, false, false, false, false, false] (by kernel_rfl) rfl rfl ⟨(blk_cell BK322.out 0).trans rfl, (blk_cell BK322.out 1).trans rfl, (blk_cell BK322.out 2).trans rfl, (blk_cell BK314.out 0).trans rfl, (blk_cell BK314.out 1).trans rfl, (blk_cell BK314.out 2).trans rfl, ((HB.out.cell (World.block_lt_of_cell? w _ hw330_0)).trans hw330_0)⟩ (fun hHeld => ?_); refine with_tabW spec_l08Step.tab14 spec_l08Step.bits14 (fun HT_ HW_ => ?_)
               generalize w61.drew = w62 at HO_323002 HO329 BK314 BK315 BK322 HB hx330_0 hHeld ⊢
               refine Zpt 0 (some 68) (h := ?_)
               refine Zpt 2 (some 70) (h := ?_)
               refine Zpt 6 (some 74) (h := ?_)
               refine Zpt 8 (some 76) (h := ?_)
               refine ZtW7 1 (some 69) hHeld (h := ?_)
               refine ZtW7 3 (some 71) hHeld (h := ?_)
               refine Zpt 4 (some 72) (h := ?_)
               refine ZtW7 5 (some 73) hHeld (h := ?_)
               refine Zpt 7 (some 75) (h := ?_)
               refine Zpt 9 (some 77) (h := ?_)
               refine one_ (i := 10) (N := some 78) #[true, true, true, true, true, true, true, true, true, true, true, false, false, false] rfl rfl (one_of HT_.out (by kernel_rfl)) (by decide) (fun K hK => ?_)
               refine value_ (w1 := ?_) (v := ?_) (by rfl) rfl ?_ ?_
               rotate_left 2
               ·go_simp
                constructor
                ·rfl
                ·rfl
               refine hK.out _ _ ⟨(blk_cell (blk_alloc BK322.out _) 0).trans rfl, (blk_cell (blk_alloc BK322.out _) 1).trans rfl, (blk_cell (blk_alloc BK322.out _) 2).trans rfl, (blk_cell (blk_alloc BK314.out _) 0).trans rfl, (blk_cell (blk_alloc BK314.out _) 1).trans rfl, (blk_cell (blk_alloc BK314.out _) 2).trans rfl, (World.cell?_alloc_lt _ _ _ (World.block_lt_of_cell? _ _ (((HB.out.cell (World.block_lt_of_cell? w _ hw330_0)).trans hw330_0)))).trans (((HB.out.cell (World.block_lt_of_cell? w _ hw330_0)).trans hw330_0))⟩ (fun hHeld => ?_)
               clear hK K
               refine norm_ (a' := ?_) ?_ ?_
               rotate_left
               ·show Act.put _ (some 78) _ = _
                simp only [Act.put, List.setIfInBounds_toArray, List.set_cons_zero, List.set_cons_succ, i64_w, i32_w]
                rfl
               refine one_ (i := 11) (N := some 79) #[true, true, true, true, true, true, true, true, true, true, true, true, false, false] rfl rfl (one_of HT_.out (by kernel_rfl)) (by decide) (fun K hK => ?_)
               refine Kd.R_append_step (Kd.int .i64) (w0 := w) w.heap.size (by rfl) (.tmp 69) (.tmp 78) 22 2 (.int .i64 0) 8 rfl Try.underlying22 info2 rfl (by decide) (by omega) u323002 x323002_1 (Int.tmod (wrap64 ((rd l0_2 0) * x9_1)) a0_0) [.int .i64 (Int.tmod (wrap64 ((rd l0_2 0) * x9_1)) a0_0)] (fun k_ => some k_ ≠ (.slice Ao59 y327.length co59 : Value).ownBlock) (fun _ => False) rfl rfl ?aP (fun _ hk => hk.elim) ?aF ?aO ?aB ?aS ?aL ?_
               (case aP => exact rfl)
               (case aB => exact ZB)
               (case aF => exact (fun k_ hk => Kd.fresh' (Kd.R_lt (ZR HO329)) k_ hk))
               (case aO => exact (ZR HO_323002))
               (case aS => exact (below_size ZB))
               (case aL => have := LMc53.out; omega)
               intro v332 w63 ho hb hg hat
               rw [← Ny331.out] at ho
               have n0_ := Aside0.mk (blk_grown (ZK BK314) hg (Kd.R_ne HO_323002.out BK314.out (by decide)))
               have n1_ := Aside0.mk (blk_grown (ZK BK315) hg (Kd.R_ne HO_323002.out BK315.out (by decide)))
               have n2_ := Aside0.mk (blk_grown (ZK BK322) hg (Kd.R_ne HO_323002.out BK322.out (by decide)))
               have n3_ := Aside0.mk (Kd.R_after (ok := (fun _ => True)) (by refine ZQ ?_; exact Kd.R_mono HO329.out (fun _ hk => (And.intro (trivial) (hk)))) hg hat)
               have n4_ := Aside0.mk (hb)
               have n5_ := Aside0.mk (ho)
               clear BK314
               clear BK315
               clear BK322
               clear HO329
               clear HB
               clear HO_323002
               have BK314 := n0_
               have BK315 := n1_
               have BK322 := n2_
               have HO329 := n3_
               have HB := n4_
               have HO333 := n5_
               clear n0_ n1_ n2_ n3_ n4_ n5_
               clear ho hb hg hat
               obtain ⟨Ao64, co64, eo64⟩ := Kd.R_slice HO333.out
               (first | subst eo64 | (injection eo64 with f1_ f2_ f3_; have f4_ := f1_.symm; have f5_ := f3_.symm; clear f1_ f2_ f3_; subst f4_; subst f5_))
               refine hK.out _ _ ⟨(blk_cell BK322.out 0).trans rfl, (blk_cell BK322.out 1).trans rfl, (blk_cell BK322.out 2).trans rfl, (blk_cell BK314.out 0).trans rfl, (blk_cell BK314.out 1).trans rfl, (blk_cell BK314.out 2).trans rfl, ((HB.out.cell (World.block_lt_of_cell? w _ hw330_0)).trans hw330_0)⟩ (fun hHeld => ?_)
               clear hK K
               refine norm_ (a' := ?_) ?_ ?_
               rotate_left
               ·show Act.put _ (some 79) _ = _
                simp only [Act.put, List.setIfInBounds_toArray, List.set_cons_zero, List.set_cons_succ, i64_w, i32_w]
                rfl
               refine Zpt 12 (some 80) (h := ?_)
               refine last_ (i := 13) (N := none) #[true, true, true, true, true, true, true, true, true, true, true, true, true, true] rfl rfl (one_of HT_.out (by kernel_rfl)) (by decide) (fun K hK => ?_)
               have hs65 : w63.cell? ⟨gb322, 2, none⟩ = some (u323002) := (blk_cell BK322.out 2).trans rfl
               have hfs65 := blk_frozen BK322.out 2
               have hns65_0 := NB314_322.out
               have hns65_1 := NB315_322.out
               have hms65_0 := NB322_314.out
               have hms65_1 := NB322_315.out
               refine skip_ (w1 := ?_) (by rfl) rfl ?_ ?_
               rotate_left
               ·go_simp
                rfl
               refine hK.out _ _ ?_
               clear hK K
               refine done_ (done_of HT_.out (by kernel_rfl)) ?_
               have hnb66 := NB314_315.out
               have hnc66 := NB315_314.out
               have hnb67 := NB314_322.out
               have hnc67 := NB322_314.out
               obtain ⟨hcz68_0, hcz68_1, hcz68_2, hfz68_0, hfz68_1, hfz68_2⟩ := ZD3 BK314
               have p334 : 0 ≤ ((ji45) : Int) := of_decide_eq_true (by first | (with_reducible assumption) | assumption)
               have q334 : (ji45) < (l0_1.length : Int) := of_decide_eq_true (by first | (with_reducible assumption) | assumption)
               obtain ⟨ad334, e334, hx334_0⟩ := Kd.at_int HR0_1.out (ji45) p334 q334
               obtain rfl : ad323 = ad334 := (by injection e334)
               have hn334_0 : ad323.block ≠ gb322 := Nat.ne_of_lt (Nat.lt_of_lt_of_le (by have := World.block_lt_of_cell? _ _ hx334_0; first | rwa [add_block] at this | exact this) GW322.out)
               replace hx334_0 := (HB.out.cell (World.block_lt_of_cell? w _ hx334_0)).trans hx334_0
               replace hx334_0 := (cell_far (p := ⟨gb322, 2, none⟩) (by first | (rw [add_block]; exact hn334_0) | (show (Addr.add _ _).block ≠ _; rw [add_block]; exact hn334_0) | exact hn334_0) (.slice Ao64 y331.length co64)).trans hx334_0
               clear hn334_0
               replace p334 := eq_true p334
               replace q334 := eq_true q334
               try go_wp2_with (first | ((with_reducible refine gate_callee (f := 99) rfl ?_); refine goesL_ (some 103) rfl rfl Try.func99 (by kernel_rfl) rfl #[.int .i64 a0_0, .int .i64 (wrap64 ((wrap64 ((rd l0_1 (ji45)) - a1)) - (Int.tmod (wrap64 ((rd l0_2 (ji45)) * t326)) a0_0)))] rfl (by (try simp only [List.map_toArray, List.map_cons, List.map_nil]); first | done | (simp only [hji45]; rfl) | rfl | (simp only [List.length_drop, List.length_take]; rfl)) ?_; (with_reducible refine (spec_l01Mod.calls a0_0 (wrap64 ((wrap64 ((rd l0_1 (ji45)) - a1)) - (Int.tmod (wrap64 ((rd l0_2 (ji45)) * t326)) a0_0))) t335 _ A55.out).mono ?_); rintro e w' ⟨rfl, ⟨nd, rfl⟩⟩; refine ⟨_, rfl, ?_⟩))
               go_roundg k1
               case measure => have := HK1.out; omega
               case rel => exact ⟨(t335), (Int.tmod (wrap64 ((rd l0_2 (ji45)) * t326)) a0_0), (ji45), (x316000_1), (y327), (y331), (.slice Ao59 y327.length co59), (.slice Ao64 y331.length co64), (by first | rfl | (simp; done) | (simp [*]; done)), (by first | rfl | (simp; done) | (simp only [← hji45] <;> (first | rfl | simp)) | (simp [*]; done)), (by first | rfl | (simp; done) | (simp only [← hji45] <;> (first | rfl | simp)) | (simp [*]; done)), H', ⟨by have := HK1.out; omega⟩, ⟨by refine ZQ ?_; exact Kd.R_mono (Kd.R_far (p := ⟨gb322, 2, none⟩) (Kd.R_types HO329.out BK322.out (by decide)) (fun _ hk => hk.2) (.slice Ao64 y331.length co64)) (fun _ hk => hk.1.2)⟩, ⟨by refine ZQ ?_; exact Kd.R_mono (Kd.R_far (p := ⟨gb322, 2, none⟩) (Kd.R_types HO333.out BK322.out (by decide)) (fun _ hk => hk.2) (.slice Ao64 y331.length co64)) (fun _ hk => hk.1)⟩, ⟨by refine ZS ?_; refine blk_far ?_ NB314_322.out _; refine ZS ?_; exact BK314.out⟩, ⟨by refine ZS ?_; refine blk_far ?_ NB315_322.out _; refine ZS ?_; exact BK315.out⟩, ⟨by refine ZS ?_; refine blk_put (cs := #[.int .i64 a0_0, .slice Ao59 y327.length co59, u323002]) ?_ 2 _ rfl; refine ZS ?_; exact BK322.out⟩, ⟨ZB⟩⟩
              ·rw [if_neg c54] at H
               exact absurd H (by simp)
             ·rw [if_neg c53] at H
              exact absurd H (by simp)
            ·rw [if_neg c52] at H
             exact absurd H (by simp)
           ·rw [if_neg c51] at H
            have c51b0 : (x11_1 == 0) = false := beq_eq_false_iff_ne.mpr c51
            have c51b1 : (x11_1 != 0) = true := bne_iff_ne.mpr c51
            by_cases c69 : x323002_1.length < 17592186044416
            ·rw [if_pos c69] at H
             have LMc69 := Aside0.mk c69
             clear c69
             obtain ⟨y336, hy336⟩ : ∃ y_ : List Int, y_ = (x323002_1 ++ [Int.tmod (wrap64 (x9_1 * x10_1)) a0_0]) := ⟨_, rfl⟩
             replace H : (if (ji45) < (l0_1.length : Int) then ((spec_l01Mod.f a0_0 (wrap64 ((wrap64 ((rd l0_1 (ji45)) - a1)) - (Int.tmod (wrap64 ((rd l0_2 (ji45)) * t326)) a0_0)))).bind fun t340 => (spec_l08Step.l0 k1 a1 a0_0 (l0_1.length : Int) t340 (Int.tmod (wrap64 ((rd l0_2 (ji45)) * t326)) a0_0) ji45 a0_0 l0_1 l0_2 a0_0 y327 y336)) else (none)) = some (r1, r2, r3, r4) := by first | (rw [hy336]; with_reducible exact H) | (have H2_ := (Option.bind_some _ _).symm.trans H; rw [hy336]; with_reducible exact H2_) | (have H2_ := (Option.bind_some _ _).symm.trans H; with_reducible exact H2_) | with_reducible exact H | (rw [hy336]; exact H) | exact H
             have Ny336 := Aside0.mk hy336
             clear hy336
             by_cases c70 : (ji45) < (l0_1.length : Int)
             ·rw [if_pos c70] at H
              have c70b0 : decide ((ji45) < (l0_1.length : Int)) = true := decide_eq_true c70
              clear c70
              replace H := Option.bind_eq_some_iff.mp H
              obtain ⟨t340, A710, H⟩ := H
              replace H : (spec_l08Step.l0 k1 a1 a0_0 (l0_1.length : Int) t340 (Int.tmod (wrap64 ((rd l0_2 (ji45)) * t326)) a0_0) ji45 a0_0 l0_1 l0_2 a0_0 y327 y336) = some (r1, r2, r3, r4) := H
              have A71 := Aside0.mk A710
              clear A710
              have H' := Aside0.mk H
              clear H
              try go_wp2
              have n0_ := Aside0.mk (Kd.R_drew HO_323001.out)
              have n1_ := Aside0.mk (Kd.R_drew HO_323002.out)
              have n2_ := Aside0.mk (blk_drew BK314.out)
              have n3_ := Aside0.mk (blk_drew BK315.out)
              have n4_ := Aside0.mk (blk_drew BK322.out)
              have n5_ := Aside0.mk (below_drew1 HB.out)
              clear HO_323001
              clear HO_323002
              clear BK314
              clear BK315
              clear BK322
              clear HB
              have HO_323001 := n0_
              have HO_323002 := n1_
              have BK314 := n2_
              have BK315 := n3_
              have BK322 := n4_
              have HB := n5_
              clear n0_ n1_ n2_ n3_ n4_ n5_
              have p325 : 0 ≤ ((ji45) : Int) := of_decide_eq_true (by first | (with_reducible assumption) | assumption)
              have q325 : (ji45) < (l0_2.length : Int) := of_decide_eq_true (by first | (with_reducible assumption) | assumption)
              obtain ⟨ad325, e325, hx325_0⟩ := Kd.at_int HR0_2.out (ji45) p325 q325
              have hw325_0 := hx325_0
              cases e325
              replace hx325_0 := (HB.out.cell (World.block_lt_of_cell? w _ hx325_0)).trans hx325_0
              replace p325 := eq_true p325
              replace q325 := eq_true q325
              refine start_ (n := 13) (S := fun w' => w'.cell? ⟨gb314, 0, none⟩ = some (.int .i64 a0_0) ∧ w'.cell? ⟨gb314, 1, none⟩ = some (.slice (some ad323) l0_1.length c0_1) ∧ w'.cell? ⟨gb314, 2, none⟩ = some (.slice (some ad325) l0_2.length c0_2) ∧ w'.cell? (ad325.add ((ji45)).toNat) = some (.int .i64 (rd l0_2 (ji45)))) (ds := []) #[false, false, false, false, false, false, false, false, false, false, false, false, false] (by kernel_rfl) rfl rfl ⟨(blk_cell BK314.out 0).trans rfl, (blk_cell BK314.out 1).trans rfl, (blk_cell BK314.out 2).trans rfl, ((HB.out.cell (World.block_lt_of_cell? w _ hw325_0)).trans hw325_0)⟩ (fun hHeld => ?_); refine with_tabW spec_l08Step.tab11 spec_l08Step.bits11 (fun HT_ HW_ => ?_)
              generalize wr.drew = w72 at HO_323001 HO_323002 BK314 BK315 BK322 HB hx325_0 hHeld ⊢
              refine Zpt 0 (some 42) (h := ?_)
              refine Zpt 2 (some 44) (h := ?_)
              refine Zpt 3 (some 45) (h := ?_)
              refine Zpt 6 (some 48) (h := ?_)
              refine Zpt 7 (some 49) (h := ?_)
              refine Zpt 10 (some 52) (h := ?_)
              refine ZtW4 1 (some 43) hHeld (h := ?_)
              refine Zpt 4 (some 46) (h := ?_)
              refine ZtW4 5 (some 47) hHeld (h := ?_)
              refine one_ (i := 8) (N := some 50) #[true, true, true, true, true, true, true, true, true, false, true, false, false] rfl rfl (one_of HT_.out (by kernel_rfl)) (by decide) (fun K hK => ?_)
              refine goes_ Try.func100 (by kernel_rfl) rfl #[.int .i64 a0_0, .int .i64 x9_1] (by rfl) rfl rfl ZA ?_
              with_reducible refine (spec_l01Inverse.calls k1 a0_0 x9_1 t326 _ A48.out).mono ?_
              rintro e w' ⟨rfl, ⟨nd, rfl⟩⟩
              refine ⟨_, rfl, ?_⟩
              refine hK.out _ _ ⟨(blk_cell BK314.out 0).trans rfl, (blk_cell BK314.out 1).trans rfl, (blk_cell BK314.out 2).trans rfl, ((HB.out.cell (World.block_lt_of_cell? w _ hw325_0)).trans hw325_0)⟩ (fun hHeld => ?_)
              clear hK K
              refine norm_ (a' := ?_) ?_ ?_
              rotate_left
              ·show Act.put _ (some 50) _ = _
               simp only [Act.put, List.setIfInBounds_toArray, List.set_cons_zero, List.set_cons_succ, i64_w, i32_w]
               rfl
              refine Zpt 9 (some 51) (h := ?_)
              refine Zpt 11 (some 53) (h := ?_)
              refine Zpt 12 (some 12) (h := ?_)
              refine done_ (done_of HT_.out (by kernel_rfl)) ?_
              try go_wp2
              (try (rw [drewN_self w72]; generalize hq_ : World.drewN w72 _ = w72; have n0_ : Aside0 (Kd.R (Kd.int .i64) 2 w72 w.heap.size (fun k_ => some k_ ≠ (u323002 : Value).ownBlock) u323001 x323001_1) := ⟨by rw [← hq_]; exact (ZR HO_323001)⟩; have n1_ : Aside0 (Kd.R (Kd.int .i64) 2 w72 w.heap.size (fun k_ => some k_ ≠ (u323001 : Value).ownBlock) u323002 x323002_1) := ⟨by rw [← hq_]; exact (ZR HO_323002)⟩; have n2_ : Aside0 (w72.heap[gb314]? = some (.cells #[.int .i64 a0_0, .slice (some ad323) l0_1.length c0_1, .slice (some ad325) l0_2.length c0_2] 29 (0, 0))) := ⟨by rw [← hq_]; exact (ZK BK314)⟩; have n3_ : Aside0 (w72.heap[gb315]? = some (.cells #[.int .i64 x316000_1, .slice none 0 0, .slice none 0 0] 29 (0, 0))) := ⟨by rw [← hq_]; exact (ZK BK315)⟩; have n4_ : Aside0 (w72.heap[gb322]? = some (.cells #[.int .i64 a0_0, u323001, u323002] 29 (0, 0))) := ⟨by rw [← hq_]; exact (ZK BK322)⟩; have n5_ : Aside0 (Below w.heap.size w w72) := ⟨by rw [← hq_]; exact ZB⟩; clear HO_323001 HO_323002 BK314 BK315 BK322 HB hq_; have HO_323001 := n0_; have HO_323002 := n1_; have BK314 := n2_; have BK315 := n3_; have BK322 := n4_; have HB := n5_; clear n0_ n1_ n2_ n3_ n4_ n5_))
              (try (obtain ⟨hcy314_0, hcy314_1, hcy314_2, hfy314_0, hfy314_1, hfy314_2⟩ := ZD3 BK314))
              (try (obtain ⟨hcy315_0, hcy315_1, hcy315_2, hfy315_0, hfy315_1, hfy315_2⟩ := ZD3 BK315))
              (try (obtain ⟨hcy322_0, hcy322_1, hcy322_2, hfy322_0, hfy322_1, hfy322_2⟩ := ZD3 BK322))
              have n0_ := Aside0.mk (Kd.R_drew HO_323001.out)
              have n1_ := Aside0.mk (Kd.R_drew HO_323002.out)
              have n2_ := Aside0.mk (blk_drew BK314.out)
              have n3_ := Aside0.mk (blk_drew BK315.out)
              have n4_ := Aside0.mk (blk_drew BK322.out)
              have n5_ := Aside0.mk (below_drew1 HB.out)
              clear HO_323001
              clear HO_323002
              clear BK314
              clear BK315
              clear BK322
              clear HB
              have HO_323001 := n0_
              have HO_323002 := n1_
              have BK314 := n2_
              have BK315 := n3_
              have BK322 := n4_
              have HB := n5_
              clear n0_ n1_ n2_ n3_ n4_ n5_
              refine start_ (n := 13) (S := fun w' => w'.cell? ⟨gb322, 0, none⟩ = some (.int .i64 a0_0) ∧ w'.cell? ⟨gb322, 1, none⟩ = some (u323001) ∧ w'.cell? ⟨gb322, 2, none⟩ = some (u323002)) (ds := [12]) #[false, false, false, false, false, false, false, false, false, false, false, false, false] (by kernel_rfl) rfl rfl ⟨(blk_cell BK322.out 0).trans rfl, (blk_cell BK322.out 1).trans rfl, (blk_cell BK322.out 2).trans rfl⟩ (fun hHeld => ?_); refine with_tabW spec_l08Step.tab12 spec_l08Step.bits12 (fun HT_ HW_ => ?_)
              generalize w72.drew = w73 at HO_323001 HO_323002 BK314 BK315 BK322 HB hHeld ⊢
              refine Zpt 0 (some 54) (h := ?_)
              refine Zpt 2 (some 56) (h := ?_)
              refine Zpt 3 (some 57) (h := ?_)
              refine Zpt 4 (some 58) (h := ?_)
              refine Zpt 5 (some 59) (h := ?_)
              refine Zpt 6 (some 60) (h := ?_)
              refine Zpt 7 (some 61) (h := ?_)
              refine Zpt 8 (some 62) (h := ?_)
              refine ZtW3 1 (some 55) hHeld (h := ?_)
              refine one_ (i := 9) (N := some 63) #[true, true, true, true, true, true, true, true, true, true, false, false, false] rfl rfl (one_of HT_.out (by kernel_rfl)) (by decide) (fun K hK => ?_)
              refine value_ (w1 := ?_) (v := ?_) (by rfl) rfl ?_ ?_
              rotate_left 2
              ·go_simp
               constructor
               ·rfl
               ·rfl
              refine hK.out _ _ ⟨(blk_cell (blk_alloc BK322.out _) 0).trans rfl, (blk_cell (blk_alloc BK322.out _) 1).trans rfl, (blk_cell (blk_alloc BK322.out _) 2).trans rfl⟩ (fun hHeld => ?_)
              clear hK K
              refine norm_ (a' := ?_) ?_ ?_
              rotate_left
              ·show Act.put _ (some 63) _ = _
               simp only [Act.put, List.setIfInBounds_toArray, List.set_cons_zero, List.set_cons_succ, i64_w, i32_w]
               rfl
              refine one_ (i := 10) (N := some 64) #[true, true, true, true, true, true, true, true, true, true, true, false, false] rfl rfl (one_of HT_.out (by kernel_rfl)) (by decide) (fun K hK => ?_)
              refine Kd.R_append_step (Kd.int .i64) (w0 := w) w.heap.size (by rfl) (.tmp 55) (.tmp 63) 22 2 (.int .i64 0) 8 rfl Try.underlying22 info2 rfl (by decide) (by omega) u323001 x323001_1 (Int.tmod (wrap64 ((wrap64 (x9_1 + (Int.tmod (wrap64 ((rd l0_2 (ji45)) * t326)) a0_0))) + a1)) a0_0) [.int .i64 (Int.tmod (wrap64 ((wrap64 (x9_1 + (Int.tmod (wrap64 ((rd l0_2 (ji45)) * t326)) a0_0))) + a1)) a0_0)] (fun k_ => some k_ ≠ (u323002 : Value).ownBlock) (fun _ => False) rfl rfl ?aP (fun _ hk => hk.elim) ?aF ?aO ?aB ?aS ?aL ?_
              (case aP => exact rfl)
              (case aB => exact ZB)
              (case aF => exact (fun k_ hk => Kd.fresh' (Kd.R_lt (ZR HO_323002)) k_ hk))
              (case aO => exact (ZR HO_323001))
              (case aS => exact (below_size ZB))
              (case aL => have := LMc50.out; omega)
              intro v328 w74 ho hb hg hat
              rw [← Ny327.out] at ho
              have n0_ := Aside0.mk (Kd.R_after (ok := (fun _ => True)) (by refine ZQ ?_; exact Kd.R_mono HO_323002.out (fun _ hk => (And.intro (trivial) (hk)))) hg hat)
              have n1_ := Aside0.mk (blk_grown (ZK BK314) hg (Kd.R_ne HO_323001.out BK314.out (by decide)))
              have n2_ := Aside0.mk (blk_grown (ZK BK315) hg (Kd.R_ne HO_323001.out BK315.out (by decide)))
              have n3_ := Aside0.mk (blk_grown (ZK BK322) hg (Kd.R_ne HO_323001.out BK322.out (by decide)))
              have n4_ := Aside0.mk (hb)
              have n5_ := Aside0.mk (ho)
              clear HO_323002
              clear BK314
              clear BK315
              clear BK322
              clear HB
              clear HO_323001
              have HO_323002 := n0_
              have BK314 := n1_
              have BK315 := n2_
              have BK322 := n3_
              have HB := n4_
              have HO329 := n5_
              clear n0_ n1_ n2_ n3_ n4_ n5_
              clear ho hb hg hat
              obtain ⟨Ao75, co75, eo75⟩ := Kd.R_slice HO329.out
              (first | subst eo75 | (injection eo75 with f1_ f2_ f3_; have f4_ := f1_.symm; have f5_ := f3_.symm; clear f1_ f2_ f3_; subst f4_; subst f5_))
              refine hK.out _ _ ⟨(blk_cell BK322.out 0).trans rfl, (blk_cell BK322.out 1).trans rfl, (blk_cell BK322.out 2).trans rfl⟩ (fun hHeld => ?_)
              clear hK K
              refine norm_ (a' := ?_) ?_ ?_
              rotate_left
              ·show Act.put _ (some 64) _ = _
               simp only [Act.put, List.setIfInBounds_toArray, List.set_cons_zero, List.set_cons_succ, i64_w, i32_w]
               rfl
              refine Zpt 11 (some 65) (h := ?_)
              refine last_ (i := 12) (N := none) #[true, true, true, true, true, true, true, true, true, true, true, true, true] rfl rfl (one_of HT_.out (by kernel_rfl)) (by decide) (fun K hK => ?_)
              have hs76 : w74.cell? ⟨gb322, 1, none⟩ = some (u323001) := (blk_cell BK322.out 1).trans rfl
              have hfs76 := blk_frozen BK322.out 1
              have hns76_0 := NB314_322.out
              have hns76_1 := NB315_322.out
              have hms76_0 := NB322_314.out
              have hms76_1 := NB322_315.out
              refine skip_ (w1 := ?_) (by rfl) rfl ?_ ?_
              rotate_left
              ·go_simp
               rfl
              refine hK.out _ _ ?_
              clear hK K
              refine done_ (done_of HT_.out (by kernel_rfl)) ?_
              try go_wp2
              have n0_ : Aside0 (Kd.R (Kd.int .i64) 2 (w74.setCell ⟨gb322, 1, none⟩ (.slice Ao75 y327.length co75)) w.heap.size (fun k_ => some k_ ≠ (.slice Ao75 y327.length co75 : Value).ownBlock) u323002 x323002_1) := ⟨by refine ZQ ?_; exact Kd.R_mono (Kd.R_far (p := ⟨gb322, 1, none⟩) (Kd.R_types HO_323002.out BK322.out (by decide)) (fun _ hk => hk.2) (.slice Ao75 y327.length co75)) (fun _ hk => hk.1.2)⟩
              have n1_ : Aside0 (Kd.R (Kd.int .i64) 2 (w74.setCell ⟨gb322, 1, none⟩ (.slice Ao75 y327.length co75)) w.heap.size (fun k_ => some k_ ≠ (u323002 : Value).ownBlock) (.slice Ao75 y327.length co75) y327) := ⟨by refine ZQ ?_; exact Kd.R_mono (Kd.R_far (p := ⟨gb322, 1, none⟩) (Kd.R_types HO329.out BK322.out (by decide)) (fun _ hk => hk.2) (.slice Ao75 y327.length co75)) (fun _ hk => hk.1)⟩
              have n2_ : Aside0 ((w74.setCell ⟨gb322, 1, none⟩ (.slice Ao75 y327.length co75)).heap[gb314]? = some (.cells #[.int .i64 a0_0, .slice (some ad323) l0_1.length c0_1, .slice (some ad325) l0_2.length c0_2] 29 (0, 0))) := ⟨by refine ZS ?_; refine blk_far ?_ NB314_322.out _; refine ZS ?_; exact BK314.out⟩
              have n3_ : Aside0 ((w74.setCell ⟨gb322, 1, none⟩ (.slice Ao75 y327.length co75)).heap[gb315]? = some (.cells #[.int .i64 x316000_1, .slice none 0 0, .slice none 0 0] 29 (0, 0))) := ⟨by refine ZS ?_; refine blk_far ?_ NB315_322.out _; refine ZS ?_; exact BK315.out⟩
              have n4_ : Aside0 ((w74.setCell ⟨gb322, 1, none⟩ (.slice Ao75 y327.length co75)).heap[gb322]? = some (.cells #[.int .i64 a0_0, .slice Ao75 y327.length co75, u323002] 29 (0, 0))) := ⟨by refine ZS ?_; refine blk_put (cs := #[.int .i64 a0_0, u323001, u323002]) ?_ 1 _ rfl; refine ZS ?_; exact BK322.out⟩
              have n5_ : Aside0 (Below w.heap.size w (w74.setCell ⟨gb322, 1, none⟩ (.slice Ao75 y327.length co75))) := ⟨ZB⟩
              (try clear HO_323002)
              (try clear HO329)
              (try clear BK314)
              (try clear BK315)
              (try clear BK322)
              (try clear HB)
              generalize (w74.setCell ⟨gb322, 1, none⟩ (.slice Ao75 y327.length co75)) = w77 at n0_ n1_ n2_ n3_ n4_ n5_ ⊢
              have HO_323002 := n0_
              have HO329 := n1_
              have BK314 := n2_
              have BK315 := n3_
              have BK322 := n4_
              have HB := n5_
              clear n0_ n1_ n2_ n3_ n4_ n5_
              have n0_ := Aside0.mk (Kd.R_drew HO_323002.out)
              have n1_ := Aside0.mk (Kd.R_drew HO329.out)
              have n2_ := Aside0.mk (blk_drew BK314.out)
              have n3_ := Aside0.mk (blk_drew BK315.out)
              have n4_ := Aside0.mk (blk_drew BK322.out)
              have n5_ := Aside0.mk (below_drew1 HB.out)
              clear HO_323002
              clear HO329
              clear BK314
              clear BK315
              clear BK322
              clear HB
              have HO_323002 := n0_
              have HO329 := n1_
              have BK314 := n2_
              have BK315 := n3_
              have BK322 := n4_
              have HB := n5_
              clear n0_ n1_ n2_ n3_ n4_ n5_
              refine start_ (n := 11) (S := fun w' => w'.cell? ⟨gb322, 0, none⟩ = some (.int .i64 a0_0) ∧ w'.cell? ⟨gb322, 1, none⟩ = some (.slice Ao75 y327.length co75) ∧ w'.cell? ⟨gb322, 2, none⟩ = some (u323002)) (ds := [10]) #[false, false, false, false, false, false, false, false, false, false, false] (by kernel_rfl) rfl rfl ⟨(blk_cell BK322.out 0).trans rfl, (blk_cell BK322.out 1).trans rfl, (blk_cell BK322.out 2).trans rfl⟩ (fun hHeld => ?_); refine with_tabW spec_l08Step.tab15 spec_l08Step.bits15 (fun HT_ HW_ => ?_)
              generalize w77.drew = w78 at HO_323002 HO329 BK314 BK315 BK322 HB hHeld ⊢
              refine Zpt 0 (some 81) (h := ?_)
              refine Zpt 2 (some 83) (h := ?_)
              refine Zpt 3 (some 84) (h := ?_)
              refine Zpt 4 (some 85) (h := ?_)
              refine Zpt 5 (some 86) (h := ?_)
              refine Zpt 6 (some 87) (h := ?_)
              refine ZtW3 1 (some 82) hHeld (h := ?_)
              refine one_ (i := 7) (N := some 88) #[true, true, true, true, true, true, true, true, false, false, false] rfl rfl (one_of HT_.out (by kernel_rfl)) (by decide) (fun K hK => ?_)
              refine value_ (w1 := ?_) (v := ?_) (by rfl) rfl ?_ ?_
              rotate_left 2
              ·go_simp
               constructor
               ·rfl
               ·rfl
              refine hK.out _ _ ⟨(blk_cell (blk_alloc BK322.out _) 0).trans rfl, (blk_cell (blk_alloc BK322.out _) 1).trans rfl, (blk_cell (blk_alloc BK322.out _) 2).trans rfl⟩ (fun hHeld => ?_)
              clear hK K
              refine norm_ (a' := ?_) ?_ ?_
              rotate_left
              ·show Act.put _ (some 88) _ = _
               simp only [Act.put, List.setIfInBounds_toArray, List.set_cons_zero, List.set_cons_succ, i64_w, i32_w]
               rfl
              refine one_ (i := 8) (N := some 89) #[true, true, true, true, true, true, true, true, true, false, false] rfl rfl (one_of HT_.out (by kernel_rfl)) (by decide) (fun K hK => ?_)
              refine Kd.R_append_step (Kd.int .i64) (w0 := w) w.heap.size (by rfl) (.tmp 82) (.tmp 88) 22 2 (.int .i64 0) 8 rfl Try.underlying22 info2 rfl (by decide) (by omega) u323002 x323002_1 (Int.tmod (wrap64 (x9_1 * x10_1)) a0_0) [.int .i64 (Int.tmod (wrap64 (x9_1 * x10_1)) a0_0)] (fun k_ => some k_ ≠ (.slice Ao75 y327.length co75 : Value).ownBlock) (fun _ => False) rfl rfl ?aP (fun _ hk => hk.elim) ?aF ?aO ?aB ?aS ?aL ?_
              (case aP => exact rfl)
              (case aB => exact ZB)
              (case aF => exact (fun k_ hk => Kd.fresh' (Kd.R_lt (ZR HO329)) k_ hk))
              (case aO => exact (ZR HO_323002))
              (case aS => exact (below_size ZB))
              (case aL => have := LMc69.out; omega)
              intro v337 w79 ho hb hg hat
              rw [← Ny336.out] at ho
              have n0_ := Aside0.mk (blk_grown (ZK BK314) hg (Kd.R_ne HO_323002.out BK314.out (by decide)))
              have n1_ := Aside0.mk (blk_grown (ZK BK315) hg (Kd.R_ne HO_323002.out BK315.out (by decide)))
              have n2_ := Aside0.mk (blk_grown (ZK BK322) hg (Kd.R_ne HO_323002.out BK322.out (by decide)))
              have n3_ := Aside0.mk (Kd.R_after (ok := (fun _ => True)) (by refine ZQ ?_; exact Kd.R_mono HO329.out (fun _ hk => (And.intro (trivial) (hk)))) hg hat)
              have n4_ := Aside0.mk (hb)
              have n5_ := Aside0.mk (ho)
              clear BK314
              clear BK315
              clear BK322
              clear HO329
              clear HB
              clear HO_323002
              have BK314 := n0_
              have BK315 := n1_
              have BK322 := n2_
              have HO329 := n3_
              have HB := n4_
              have HO338 := n5_
              clear n0_ n1_ n2_ n3_ n4_ n5_
              clear ho hb hg hat
              obtain ⟨Ao80, co80, eo80⟩ := Kd.R_slice HO338.out
              (first | subst eo80 | (injection eo80 with f1_ f2_ f3_; have f4_ := f1_.symm; have f5_ := f3_.symm; clear f1_ f2_ f3_; subst f4_; subst f5_))
              refine hK.out _ _ ⟨(blk_cell BK322.out 0).trans rfl, (blk_cell BK322.out 1).trans rfl, (blk_cell BK322.out 2).trans rfl⟩ (fun hHeld => ?_)
              clear hK K
              refine norm_ (a' := ?_) ?_ ?_
              rotate_left
              ·show Act.put _ (some 89) _ = _
               simp only [Act.put, List.setIfInBounds_toArray, List.set_cons_zero, List.set_cons_succ, i64_w, i32_w]
               rfl
              refine Zpt 9 (some 90) (h := ?_)
              refine last_ (i := 10) (N := none) #[true, true, true, true, true, true, true, true, true, true, true] rfl rfl (one_of HT_.out (by kernel_rfl)) (by decide) (fun K hK => ?_)
              have hs81 : w79.cell? ⟨gb322, 2, none⟩ = some (u323002) := (blk_cell BK322.out 2).trans rfl
              have hfs81 := blk_frozen BK322.out 2
              have hns81_0 := NB314_322.out
              have hns81_1 := NB315_322.out
              have hms81_0 := NB322_314.out
              have hms81_1 := NB322_315.out
              refine skip_ (w1 := ?_) (by rfl) rfl ?_ ?_
              rotate_left
              ·go_simp
               rfl
              refine hK.out _ _ ?_
              clear hK K
              refine done_ (done_of HT_.out (by kernel_rfl)) ?_
              have hnb82 := NB314_315.out
              have hnc82 := NB315_314.out
              have hnb83 := NB314_322.out
              have hnc83 := NB322_314.out
              obtain ⟨hcz84_0, hcz84_1, hcz84_2, hfz84_0, hfz84_1, hfz84_2⟩ := ZD3 BK314
              have p339 : 0 ≤ ((ji45) : Int) := of_decide_eq_true (by first | (with_reducible assumption) | assumption)
              have q339 : (ji45) < (l0_1.length : Int) := of_decide_eq_true (by first | (with_reducible assumption) | assumption)
              obtain ⟨ad339, e339, hx339_0⟩ := Kd.at_int HR0_1.out (ji45) p339 q339
              obtain rfl : ad323 = ad339 := (by injection e339)
              have hn339_0 : ad323.block ≠ gb322 := Nat.ne_of_lt (Nat.lt_of_lt_of_le (by have := World.block_lt_of_cell? _ _ hx339_0; first | rwa [add_block] at this | exact this) GW322.out)
              replace hx339_0 := (HB.out.cell (World.block_lt_of_cell? w _ hx339_0)).trans hx339_0
              replace hx339_0 := (cell_far (p := ⟨gb322, 2, none⟩) (by first | (rw [add_block]; exact hn339_0) | (show (Addr.add _ _).block ≠ _; rw [add_block]; exact hn339_0) | exact hn339_0) (.slice Ao80 y336.length co80)).trans hx339_0
              clear hn339_0
              replace p339 := eq_true p339
              replace q339 := eq_true q339
              try go_wp2_with (first | ((with_reducible refine gate_callee (f := 99) rfl ?_); refine goesL_ (some 103) rfl rfl Try.func99 (by kernel_rfl) rfl #[.int .i64 a0_0, .int .i64 (wrap64 ((wrap64 ((rd l0_1 (ji45)) - a1)) - (Int.tmod (wrap64 ((rd l0_2 (ji45)) * t326)) a0_0)))] rfl (by (try simp only [List.map_toArray, List.map_cons, List.map_nil]); first | done | (simp only [hji45]; rfl) | rfl | (simp only [List.length_drop, List.length_take]; rfl)) ?_; (with_reducible refine (spec_l01Mod.calls a0_0 (wrap64 ((wrap64 ((rd l0_1 (ji45)) - a1)) - (Int.tmod (wrap64 ((rd l0_2 (ji45)) * t326)) a0_0))) t340 _ A71.out).mono ?_); rintro e w' ⟨rfl, ⟨nd, rfl⟩⟩; refine ⟨_, rfl, ?_⟩))
              go_roundg k1
              case measure => have := HK1.out; omega
              case rel => exact ⟨(t340), (Int.tmod (wrap64 ((rd l0_2 (ji45)) * t326)) a0_0), (ji45), (x316000_1), (y327), (y336), (.slice Ao75 y327.length co75), (.slice Ao80 y336.length co80), (by first | rfl | (simp; done) | (simp [*]; done)), (by first | rfl | (simp; done) | (simp only [← hji45] <;> (first | rfl | simp)) | (simp [*]; done)), (by first | rfl | (simp; done) | (simp only [← hji45] <;> (first | rfl | simp)) | (simp [*]; done)), H', ⟨by have := HK1.out; omega⟩, ⟨by refine ZQ ?_; exact Kd.R_mono (Kd.R_far (p := ⟨gb322, 2, none⟩) (Kd.R_types HO329.out BK322.out (by decide)) (fun _ hk => hk.2) (.slice Ao80 y336.length co80)) (fun _ hk => hk.1.2)⟩, ⟨by refine ZQ ?_; exact Kd.R_mono (Kd.R_far (p := ⟨gb322, 2, none⟩) (Kd.R_types HO338.out BK322.out (by decide)) (fun _ hk => hk.2) (.slice Ao80 y336.length co80)) (fun _ hk => hk.1)⟩, ⟨by refine ZS ?_; refine blk_far ?_ NB314_322.out _; refine ZS ?_; exact BK314.out⟩, ⟨by refine ZS ?_; refine blk_far ?_ NB315_322.out _; refine ZS ?_; exact BK315.out⟩, ⟨by refine ZS ?_; refine blk_put (cs := #[.int .i64 a0_0, .slice Ao75 y327.length co75, u323002]) ?_ 2 _ rfl; refine ZS ?_; exact BK322.out⟩, ⟨ZB⟩⟩
             ·rw [if_neg c70] at H
              exact absurd H (by simp)
            ·rw [if_neg c69] at H
             exact absurd H (by simp)
          ·rw [if_neg c50] at H
           exact absurd H (by simp)
        ·rw [if_neg c47] at H
         exact absurd H (by simp)
       ·rw [if_neg c46] at H
        exact absurd H (by simp)
     ·rw [if_neg c36] at H
      have c36b0 : decide ((wrap64 (x11_1 + 1)) < (l0_1.length : Int)) = false := decide_eq_false c36
      clear c36
      simp only [Option.some.injEq, Prod.mk.injEq] at H
      obtain ⟨rfl, rfl, rfl, rfl⟩ := H
      have hnb85 := NB322_314.out
      have hnc85 := NB314_322.out
      have hnb86 := NB322_315.out
      have hnc86 := NB315_322.out
      obtain ⟨hcz87_0, hcz87_1, hcz87_2, hfz87_0, hfz87_1, hfz87_2⟩ := ZD3 BK322
      have hnb88 := NB315_314.out
      have hnc88 := NB314_315.out
      obtain ⟨hcz89_0, hcz89_1, hcz89_2, hfz89_0, hfz89_1, hfz89_2⟩ := ZD3 BK315
      obtain ⟨Ao90, co90, eo90⟩ := Kd.R_slice HO_323001.out
      subst eo90
      obtain ⟨Ao91, co91, eo91⟩ := Kd.R_slice HO_323002.out
      subst eo91
      go_wp2
      refine bodyPost_ret (results_ct rfl _ _ gb315 29 #[.int .i64 a0_0, .slice Ao90 x323001_1.length co90, .slice Ao91 x323002_1.length co91] (0, 0) _ rfl (by refine ZS ?_; refine blk_put (cs := #[.int .i64 a0_0, .slice Ao90 x323001_1.length co90, .slice none 0 0]) ?_ 2 _ rfl; refine ZS ?_; refine blk_put (cs := #[.int .i64 a0_0, .slice none 0 0, .slice none 0 0]) ?_ 1 _ rfl; refine ZS ?_; refine blk_put (cs := #[.int .i64 x316000_1, .slice none 0 0, .slice none 0 0]) ?_ 0 _ rfl; refine ZS ?_; exact BK315.out) Try.underlying29 rfl (by kernel_rfl)) rfl ?_
      exact ⟨_, _, by first | rfl | (simp [errW_none, errW_some] <;> rfl) | (simp [*, errW_none, errW_some] <;> rfl), by refine ZQ ?_; exact Kd.R_mono (Kd.R_far (p := ⟨gb315, 2, none⟩) (Kd.R_far (p := ⟨gb315, 1, none⟩) (Kd.R_far (p := ⟨gb315, 0, none⟩) (Kd.R_types HO_323001.out BK315.out (by decide)) (fun _ hk => hk.2) (.int .i64 a0_0)) (fun _ hk => hk.2) (.slice Ao90 x323001_1.length co90)) (fun _ hk => hk.2) (.slice Ao91 x323002_1.length co91)) (fun _ hk => hk.1), by refine ZQ ?_; exact Kd.R_mono (Kd.R_far (p := ⟨gb315, 2, none⟩) (Kd.R_far (p := ⟨gb315, 1, none⟩) (Kd.R_far (p := ⟨gb315, 0, none⟩) (Kd.R_types HO_323002.out BK315.out (by decide)) (fun _ hk => hk.2) (.int .i64 a0_0)) (fun _ hk => hk.2) (.slice Ao90 x323001_1.length co90)) (fun _ hk => hk.2) (.slice Ao91 x323002_1.length co91)) (fun _ hk => hk.1), ZB⟩
  ·rw [if_neg c19] at H
   exact absurd H (by simp)

end Go.Proofs.Ytaclapojgdekpaa.X
