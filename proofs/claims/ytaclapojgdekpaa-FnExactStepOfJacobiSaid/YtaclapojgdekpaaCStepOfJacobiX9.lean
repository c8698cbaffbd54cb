/- Contracts of functions that the law reaches, printed by a program of this session; Lean checks them. -/
import Derived.Test.YtaclapojgdekpaaCStepOfJacobiX0
import Derived.Test.YtaclapojgdekpaaCStepOfJacobiX8
import Derived.Test.YtaclapojgdekpaaCStepOfJacobiXZ
namespace Go.Proofs.Ytaclapojgdekpaa.X
open Go.RowKit Go.Proofs.YtaclapojgdekpaaW.PrintWords Go.Proofs.YtaclapojgdekpaaW.PrintLast Go.Proofs.YtaclapojgdekpaaW.PrintMore
attribute [local go_sem] max2_int min2_int max_two min_two max_three min_three max_four min_four   -- for this text's walks alone
set_option linter.unusedVariables false
set_option linter.unusedSimpArgs false

/-! ### spec_l08Step: function 63 -/
def spec_l08Step.l0 : Nat → Int → Int → Int → Int → Int → Int → Int → List Int → List Int → Int → List Int → List Int → Option (Int × List Int × List Int × Bool)
 | 0, _, _, _, _, _, _, _, _, _, _, _, _ => none
 | k + 1, x1, x6, x7, x9, x10, x11, x245000, x245001, x245002, x253000, x253001, x253002 => if (wrap64 (x11 + 1)) < x7 then (if x9 = 0 then (some (x253000, x253001, x253002, false)) else (if 0 ≤ (wrap64 (x11 + 1)) then (if (wrap64 (x11 + 1)) < (x245002.length : Int) then ((spec_l01Inverse.f k x6 x9).bind fun t256 => (if x6 = 0 then (none) else (if x253001.length < 17592186044416 then ((some (x253001 ++ [Int.tmod (wrap64 ((wrap64 (x9 + (Int.tmod (wrap64 ((rd x245002 (wrap64 (x11 + 1))) * t256)) x6))) + x1)) x6] : List Int)).bind fun y257 => (if x11 = 0 then (if 0 < (x245002.length : Int) then (if x253002.length < 17592186044416 then (if (wrap64 (x11 + 1)) < (x245001.length : Int) then ((spec_l01Mod.f x6 (wrap64 ((wrap64 ((rd x245001 (wrap64 (x11 + 1))) - x1)) - (Int.tmod (wrap64 ((rd x245002 (wrap64 (x11 + 1))) * t256)) x6)))).bind fun t265 => (spec_l08Step.l0 k x1 x6 x7 t265 (Int.tmod (wrap64 ((rd x245002 (wrap64 (x11 + 1))) * t256)) x6) (wrap64 (x11 + 1)) x245000 x245001 x245002 x253000 y257 (x253002 ++ [Int.tmod (wrap64 ((rd x245002 0) * x9)) x6]))) else (none)) else (none)) else (none)) else (if x253002.length < 17592186044416 then (if (wrap64 (x11 + 1)) < (x245001.length : Int) then ((spec_l01Mod.f x6 (wrap64 ((wrap64 ((rd x245001 (wrap64 (x11 + 1))) - x1)) - (Int.tmod (wrap64 ((rd x245002 (wrap64 (x11 + 1))) * t256)) x6)))).bind fun t270 => (spec_l08Step.l0 k x1 x6 x7 t270 (Int.tmod (wrap64 ((rd x245002 (wrap64 (x11 + 1))) * t256)) x6) (wrap64 (x11 + 1)) x245000 x245001 x245002 x253000 y257 (x253002 ++ [Int.tmod (wrap64 (x9 * x10)) x6]))) else (none)) else (none)))) else (none)))) else (none)) else (none))) else (some (x253000, x253001, x253002, true))
def spec_l08Step.f (k : Nat) (a0_0 : Int) (l0_1 : List Int) (l0_2 : List Int) (a1 : Int) : Option (Int × List Int × List Int × Bool) := (some (([] : List Int) : List Int)).bind fun y246 => ((some (([] : List Int) : List Int)).bind fun y249 => (if (l0_1.length : Int) < 2 then (some (a0_0, y246, y249, false)) else (if 0 < (l0_1.length : Int) then ((spec_l01Mod.f a0_0 (wrap64 ((rd l0_1 0) - a1))).bind fun t254 => (spec_l08Step.l0 k a1 a0_0 (l0_1.length : Int) t254 0 0 a0_0 l0_1 l0_2 a0_0 y246 y249)) else (none))))
theorem spec_l08Step.mono_l : ∀ k, (∀ y0 y1 y2 y3 y4 y5 y6 y7 y8 y9 y10 y11, LeO (spec_l08Step.l0 k y0 y1 y2 y3 y4 y5 y6 y7 y8 y9 y10 y11) (spec_l08Step.l0 (k + 1) y0 y1 y2 y3 y4 y5 y6 y7 y8 y9 y10 y11))
 | 0 => fun _ _ _ _ _ _ _ _ _ _ _ _ r h => by simp [spec_l08Step.l0] at h
 | k + 1 => by
  have ih0 := spec_l08Step.mono_l k
  ·intro y0 y1 y2 y3 y4 y5 y6 y7 y8 y9 y10 y11
   unfold spec_l08Step.l0
   repeat' first
   | (with_reducible exact ih0 _ _ _ _ _ _ _ _ _ _ _ _)
   | (with_reducible exact spec_l01Inverse.mono _ _ _)
   | (with_reducible exact LeO.refl _)
   | (with_reducible exact LeO.none _)
   | (with_reducible refine LeO.ite ?_ ?_)
   | (with_reducible refine LeO.bind ?_ (fun _ => ?_))
   | exact ih0 _ _ _ _ _ _ _ _ _ _ _ _
   | exact spec_l01Inverse.mono _ _ _
   | exact LeO.none _
   | refine LeO.ite ?_ ?_
   | refine LeO.bind ?_ (fun _ => ?_)
theorem spec_l08Step.mono : ∀ a0 a1 a2 a3 k, LeO (spec_l08Step.f k a0 a1 a2 a3) (spec_l08Step.f (k + 1) a0 a1 a2 a3) := by
 intro a0 a1 a2 a3 k
 have ih0 := spec_l08Step.mono_l k
 unfold spec_l08Step.f
 repeat' first
   | (with_reducible exact ih0 _ _ _ _ _ _ _ _ _ _ _ _)
   | (with_reducible exact spec_l01Inverse.mono _ _ _)
   | (with_reducible exact LeO.refl _)
   | (with_reducible exact LeO.none _)
   | (with_reducible refine LeO.ite ?_ ?_)
   | (with_reducible refine LeO.bind ?_ (fun _ => ?_))
   | exact ih0 _ _ _ _ _ _ _ _ _ _ _ _
   | exact spec_l01Inverse.mono _ _ _
   | exact LeO.none _
   | refine LeO.ite ?_ ?_
   | refine LeO.bind ?_ (fun _ => ?_)
def spec_l08Step.T11 : Bool × List (List Nat × List Nat) := (true, [([], []), ([0], [0]), ([], []), ([2], [2]), ([1, 3], [1, 3]), ([4], [4]), ([], []), ([], []), ([6, 7], [6, 7]), ([5, 8], [5, 8]), ([], []), ([9, 10], [9, 10]), ([11, 8, 0, 1, 2, 3, 4, 5, 6, 7, 8, 9, 10, 11], [11])])
def spec_l08Step.B11 : List Nat := [0, 1, 0, 4, 15, 31, 0, 0, 192, 511, 0, 2047, 4095]
theorem spec_l08Step.tab11 : rtab .any (opsOf Try.f63 11) = spec_l08Step.T11 := by kernel_rfl
theorem spec_l08Step.bits11 : waitsOk spec_l08Step.T11.2 spec_l08Step.B11 = true := by kernel_rfl
def spec_l08Step.T12 : Bool × List (List Nat × List Nat) := (true, [([], []), ([0], [0]), ([], []), ([], []), ([2, 3], [2, 3]), ([], []), ([4, 5], [4, 5]), ([], []), ([6, 7], [6, 7]), ([8], [8]), ([1, 9], [1, 9]), ([0, 1, 2, 3, 4, 5, 6, 7, 8, 9, 10], []), ([11, 10, 10, 0, 1, 2, 3, 4, 5, 6, 7, 8, 9, 10], [10, 11])])
def spec_l08Step.B12 : List Nat := [0, 1, 0, 0, 12, 0, 60, 0, 252, 508, 1023, 2047, 4095]
theorem spec_l08Step.tab12 : rtab .any (opsOf Try.f63 12) = spec_l08Step.T12 := by kernel_rfl
theorem spec_l08Step.bits12 : waitsOk spec_l08Step.T12.2 spec_l08Step.B12 = true := by kernel_rfl
def spec_l08Step.T14 : Bool × List (List Nat × List Nat) := (true, [([], []), ([0], [0]), ([], []), ([2], [2]), ([3], [3]), ([4], [4]), ([], []), ([5, 6], [5, 6]), ([], []), ([7, 8], [7, 8]), ([9], [9]), ([1, 10], [1, 10]), ([0, 1, 2, 3, 4, 5, 6, 7, 8, 9, 10, 11], []), ([12, 11, 11, 0, 1, 2, 3, 4, 5, 6, 7, 8, 9, 10, 11], [11, 12])])
def spec_l08Step.B14 : List Nat := [0, 1, 0, 4, 12, 28, 0, 124, 0, 508, 1020, 2047, 4095, 8191]
theorem spec_l08Step.tab14 : rtab .any (opsOf Try.f63 14) = spec_l08Step.T14 := by kernel_rfl
theorem spec_l08Step.bits14 : waitsOk spec_l08Step.T14.2 spec_l08Step.B14 = true := by kernel_rfl
def spec_l08Step.T15 : Bool × List (List Nat × List Nat) := (true, [([], []), ([0], [0]), ([], []), ([], []), ([2, 3], [2, 3]), ([], []), ([4, 5], [4, 5]), ([6], [6]), ([1, 7], [1, 7]), ([0, 1, 2, 3, 4, 5, 6, 7, 8], []), ([9, 8, 8, 0, 1, 2, 3, 4, 5, 6, 7, 8], [8, 9])])
def spec_l08Step.B15 : List Nat := [0, 1, 0, 0, 12, 0, 60, 124, 255, 511, 1023]
theorem spec_l08Step.tab15 : rtab .any (opsOf Try.f63 15) = spec_l08Step.T15 := by kernel_rfl
theorem spec_l08Step.bits15 : waitsOk spec_l08Step.T15.2 spec_l08Step.B15 = true := by kernel_rfl
set_option maxHeartbeats 8000000 in
set_option maxRecDepth 100000 in
theorem spec_l08Step.calls (k : Nat) (a0_0 : Int) (A0_1 : Option Addr) (c0_1 : Nat) (l0_1 : List Int) (A0_2 : Option Addr) (c0_2 : Nat) (l0_2 : List Int) (a1 : Int) (r1 : Int) (r2 : List Int) (r3 : List Int) (r4 : Bool) (w : World) (hr0_1 : Kd.C (Kd.int .i64) w A0_1 l0_1.length l0_1) (hc0_1 : l0_1.length ≤ c0_1) (hr0_2 : Kd.C (Kd.int .i64) w A0_2 l0_2.length l0_2) (hc0_2 : l0_2.length ≤ c0_2) (h : spec_l08Step.f k a0_0 l0_1 l0_2 a1 = some (r1, r2, r3, r4)) :
  Calls Try.prog 63 #[.agg #[.int .i64 a0_0, .slice A0_1 l0_1.length c0_1, .slice A0_2 l0_2.length c0_2], .int .i64 a1] w fun e w' => ∃ v1_ v2_ : Value, e = .returned (.tuple #[.agg #[.int .i64 r1, v1_, v2_], .bool r4]) ∧ Kd.R (Kd.int .i64) 2 w' w.heap.size (fun k_ => some k_ ≠ (v2_ : Value).ownBlock) v1_ r2 ∧ Kd.R (Kd.int .i64) 2 w' w.heap.size (fun k_ => some k_ ≠ (v1_ : Value).ownBlock) v2_ r3 ∧ Below w.heap.size w w' := by
 have hu29 := Try.underlying29
 have HR0_1 := Aside0.mk hr0_1
 have HC0_1 := Aside0.mk hc0_1
 clear hr0_1 hc0_1
 have HR0_2 := Aside0.mk hr0_2
 have HC0_2 := Aside0.mk hc0_2
 clear hr0_2 hc0_2
 have HB := Aside0.mk (Below.refl w.heap.size w)
 have H : ((some (([] : List Int) : List Int)).bind fun y246 => ((some (([] : List Int) : List Int)).bind fun y249 => (if (l0_1.length : Int) < 2 then (some (a0_0, y246, y249, false)) else (if 0 < (l0_1.length : Int) then ((spec_l01Mod.f a0_0 (wrap64 ((rd l0_1 0) - a1))).bind fun t254 => (spec_l08Step.l0 k a1 a0_0 (l0_1.length : Int) t254 0 0 a0_0 l0_1 l0_2 a0_0 y246 y249)) else (none))))) = some (r1, r2, r3, r4) := h
 clear h
 obtain ⟨y246, hy246⟩ : ∃ y_ : List Int, y_ = (([] : List Int)) := ⟨_, rfl⟩
 replace H : ((some (([] : List Int) : List Int)).bind fun y249 => (if (l0_1.length : Int) < 2 then (some (a0_0, y246, y249, false)) else (if 0 < (l0_1.length : Int) then ((spec_l01Mod.f a0_0 (wrap64 ((rd l0_1 0) - a1))).bind fun t254 => (spec_l08Step.l0 k a1 a0_0 (l0_1.length : Int) t254 0 0 a0_0 l0_1 l0_2 a0_0 y246 y249)) else (none)))) = some (r1, r2, r3, r4) := by first | (rw [hy246]; with_reducible exact H) | (have H2_ := (Option.bind_some _ _).symm.trans H; rw [hy246]; with_reducible exact H2_) | (have H2_ := (Option.bind_some _ _).symm.trans H; with_reducible exact H2_) | with_reducible exact H | (rw [hy246]; exact H) | exact H
 have Ny246 := Aside0.mk hy246
 clear hy246
 obtain ⟨y249, hy249⟩ : ∃ y_ : List Int, y_ = (([] : List Int)) := ⟨_, rfl⟩
 replace H : (if (l0_1.length : Int) < 2 then (some (a0_0, y246, y249, false)) else (if 0 < (l0_1.length : Int) then ((spec_l01Mod.f a0_0 (wrap64 ((rd l0_1 0) - a1))).bind fun t254 => (spec_l08Step.l0 k a1 a0_0 (l0_1.length : Int) t254 0 0 a0_0 l0_1 l0_2 a0_0 y246 y249)) else (none))) = some (r1, r2, r3, r4) := by first | (rw [hy249]; with_reducible exact H) | (have H2_ := (Option.bind_some _ _).symm.trans H; rw [hy249]; with_reducible exact H2_) | (have H2_ := (Option.bind_some _ _).symm.trans H; with_reducible exact H2_) | with_reducible exact H | (rw [hy249]; exact H) | exact H
 have Ny249 := Aside0.mk hy249
 clear hy249
 by_cases c3 : (l0_1.length : Int) < 2
 ·rw [if_pos c3] at H
  have c3b0 : decide ((l0_1.length : Int) < 2) = true := decide_eq_true c3
  have c3b1 : decide (l0_1.length < 2) = true := decide_eq_true (by omega)
  clear c3
  simp only [Option.some.injEq, Prod.mk.injEq] at H
  obtain ⟨rfl, rfl, rfl, rfl⟩ := H
  go_enter Try.func63, Try.ntmps63
  try go_wp2_with (first | ((with_reducible refine gate_dst (N := 2) rfl ?_); refine box_event ?hg (N := 2) ?hd (cs := #[.int .i64 a0_0, .slice A0_1 l0_1.length c0_1, .slice A0_2 l0_2.length c0_2]) (t := 29) ?hr ?_; (case hd => rfl); (case hg => rfl); (case hr => first | (go_simp; done) | (go_simp; rfl)); intro gb244 hg w4 hbox hb; have n0_ := Aside0.mk (below_step ZB hb); have n1_ := Aside0.mk (hbox); have n2_ := Aside0.mk ((ZG hg : w.heap.size ≤ gb244)); have n3_ := Aside0.mk ((ZG hg : w.heap.size ≤ gb244)); clear HB; have HB := n0_; have BK244 := n1_; have GW244 := n2_; have GE244 := n3_; clear n0_ n1_ n2_ n3_; clear hb hbox hg) | ((with_reducible refine gate_dst (N := 4) rfl ?_); refine box_event ?hg (N := 4) ?hd (cs := #[.int .i64 0, .slice none 0 0, .slice none 0 0]) (t := 29) ?hr ?_; (case hd => rfl); (case hg => rfl); (case hr => first | (go_simp; done) | (go_simp; rfl)); intro gb245 hg w5 hbox hb; have n0_ := ZL BK244 hb; have n1_ := Aside0.mk (below_step ZB hb); have n2_ := Aside0.mk (hbox); have n3_ := Aside0.mk ((ZG hg : w.heap.size ≤ gb245)); have n4_ := Aside0.mk ((ZG hg : w.heap.size ≤ gb245)); have n5_ := Aside0.mk ((ZN hg BK244 : gb244 ≠ gb245)); have n6_ := Aside0.mk ((ZM hg BK244 : gb245 ≠ gb244)); clear BK244; clear HB; have BK244 := n0_; have HB := n1_; have BK245 := n2_; have GW245 := n3_; have GE245 := n4_; have NB244_245 := n5_; have NB245_244 := n6_; clear n0_ n1_ n2_ n3_ n4_ n5_ n6_; clear hb hbox hg))
  have n0_ := Aside0.mk (blk_drew BK244.out)
  have n1_ := Aside0.mk (blk_drew BK245.out)
  have n2_ := Aside0.mk (below_drew1 HB.out)
  clear BK244
  clear BK245
  clear HB
  have BK244 := n0_
  have BK245 := n1_
  have HB := n2_
  clear n0_ n1_ n2_
  refine start_ (n := 7) (S := fun w' => w'.cell? ⟨gb244, 0, none⟩ = some (.int .i64 a0_0) ∧ w'.cell? ⟨gb244, 1, none⟩ = some (.slice A0_1 l0_1.length c0_1) ∧ w'.cell? ⟨gb244, 2, none⟩ = some (.slice A0_2 l0_2.length c0_2)) (ds := []) #[false, false, false, false, false, false, false] (by kernel_rfl) rfl rfl ⟨(blk_cell BK244.out 0).trans rfl, (blk_cell BK244.out 1).trans rfl, (blk_cell BK244.out 2).trans rfl⟩ (fun hHeld => ?_)
  generalize w5.drew = w6 at BK244 BK245 HB hHeld ⊢
  refine Zp 0 (some 13) (h := ?_)
  refine Zp 2 (some 15) (h := ?_)
  refine Zt3 1 (some 14) hHeld (h := ?_)
  refine Zp 5 (some 6) (h := ?_)
  refine Zt3 3 (some 16) hHeld (h := ?_)
  refine Zp 4 (some 17) (h := ?_)
  refine Zp 6 (some 7) (h := ?_)
  refine done_ (by kernel_rfl) ?_
  try go_wp2_with (first | ((with_reducible refine gate_dst (N := 19) rfl ?_); refine Kd.R_lit (Kd.int .i64) _ 2 ?hg (N := 19) ?hd (xs := ([] : List Int)) (inner := []) (ok := fun _ => True) (okp := fun _ => True) ?hr ?hp (fun _ hk => hk) trivial (Below.refl _ _) (Nat.le_refl _) (by simp) ?_; (case hd => rfl); (case hg => rfl); (case hr => first | (go_simp; done) | (go_simp; rfl)); (case hp => exact (Reps.none _ _)); intro v247 w7 ho8 hb hg_ hnew_; clear hg_ hnew_; (first | rw [← Ny246.out] at ho8 | (simp only [Int.reduceToNat] at ho8; rw [← Ny246.out] at ho8)); have n0_ := Aside0.mk (Kd.R_lower ho8 (below_size ZB)); have n1_ := ZL BK244 hb; have n2_ := ZL BK245 hb; have n3_ := Aside0.mk (below_step ZB hb); clear BK244; clear BK245; clear HB; have HO248 := n0_; have BK244 := n1_; have BK245 := n2_; have HB := n3_; clear n0_ n1_ n2_ n3_; clear hb ho8) | ((with_reducible refine gate_dst (N := 20) rfl ?_); refine Kd.R_lit (Kd.int .i64) _ 2 ?hg (N := 20) ?hd (xs := ([] : List Int)) (inner := []) (ok := fun _ => True) (okp := fun _ => True) ?hr ?hp (fun _ hk => hk) trivial (Below.refl _ _) (Nat.le_refl _) (by simp) ?_; (case hd => rfl); (case hg => rfl); (case hr => first | (go_simp; done) | (go_simp; rfl)); (case hp => exact (Reps.none _ _)); intro v250 w9 ho10 hb hg_ hnew_; clear hg_ hnew_; (first | rw [← Ny249.out] at ho10 | (simp only [Int.reduceToNat] at ho10; rw [← Ny249.out] at ho10)); have n0_ := Aside0.mk (Kd.R_elder' (ZR HO248) (Kd.R_base ho10) hb); have n1_ := Aside0.mk (Kd.R_lower (Kd.R_new' ho10 (Kd.R_lt (ZR HO248))) (below_size ZB)); have n2_ := ZL BK244 hb; have n3_ := ZL BK245 hb; have n4_ := Aside0.mk (below_step ZB hb); clear HO248; clear BK244; clear BK245; clear HB; have HO248 := n0_; have HO251 := n1_; have BK244 := n2_; have BK245 := n3_; have HB := n4_; clear n0_ n1_ n2_ n3_ n4_; clear hb ho10; obtain ⟨Ao11, co11, eo11⟩ := Kd.R_slice HO251.out; subst eo11; obtain ⟨Ao12, co12, eo12⟩ := Kd.R_slice HO248.out; subst eo12) | ((with_reducible refine gate_dst (N := 8) rfl ?_); refine box_event ?hg (N := 8) ?hd (cs := #[.int .i64 0, .slice none 0 0, .slice none 0 0]) (t := 29) ?hr ?_; (case hd => rfl); (case hg => rfl); (case hr => first | (go_simp; done) | (go_simp; rfl)); intro gb252 hg w13 hbox hb; have n0_ := Aside0.mk (Kd.R_below (ZR HO248) hb); have n1_ := Aside0.mk (Kd.R_below (ZR HO251) hb); have n2_ := ZL BK244 hb; have n3_ := ZL BK245 hb; have n4_ := Aside0.mk (below_step ZB hb); have n5_ := Aside0.mk (hbox); have n6_ := Aside0.mk ((ZG hg : w.heap.size ≤ gb252)); have n7_ := Aside0.mk ((ZG hg : w.heap.size ≤ gb252)); have n8_ := Aside0.mk ((ZN hg BK244 : gb244 ≠ gb252)); have n9_ := Aside0.mk ((ZM hg BK244 : gb252 ≠ gb244)); have n10_ := Aside0.mk ((ZN hg BK245 : gb245 ≠ gb252)); have n11_ := Aside0.mk ((ZM hg BK245 : gb252 ≠ gb245)); clear HO248; clear HO251; clear BK244; clear BK245; clear HB; have HO248 := n0_; have HO251 := n1_; have BK244 := n2_; have BK245 := n3_; have HB := n4_; have BK252 := n5_; have GW252 := n6_; have GE252 := n7_; have NB244_252 := n8_; have NB252_244 := n9_; have NB245_252 := n10_; have NB252_245 := n11_; clear n0_ n1_ n2_ n3_ n4_ n5_ n6_ n7_ n8_ n9_ n10_ n11_; clear hb hbox hg; have hnb14 := NB252_244.out; have hnc14 := NB244_252.out; have hnb15 := NB252_245.out; have hnc15 := NB245_252.out; obtain ⟨hcz16_0, hcz16_1, hcz16_2, hfz16_0, hfz16_1, hfz16_2⟩ := ZD3 BK252; have hnb17 := NB245_244.out; have hnc17 := NB244_245.out; obtain ⟨hcz18_0, hcz18_1, hcz18_2, hfz18_0, hfz18_1, hfz18_2⟩ := ZD3 BK245))
  refine bodyPost_ret (results_ct rfl _ _ gb245 29 #[.int .i64 a0_0, .slice Ao12 y246.length co12, .slice Ao11 y249.length co11] (0, 0) _ rfl (by refine ZS ?_; refine blk_put (cs := #[.int .i64 a0_0, .slice Ao12 y246.length co12, .slice none 0 0]) ?_ 2 _ rfl; refine ZS ?_; refine blk_put (cs := #[.int .i64 a0_0, .slice none 0 0, .slice none 0 0]) ?_ 1 _ rfl; refine ZS ?_; refine blk_put (cs := #[.int .i64 0, .slice none 0 0, .slice none 0 0]) ?_ 0 _ rfl; refine ZS ?_; refine blk_far ?_ NB245_252.out _; refine ZS ?_; refine blk_far ?_ NB245_252.out _; refine ZS ?_; refine blk_far ?_ NB245_252.out _; refine ZS ?_; exact BK245.out) Try.underlying29 rfl (by kernel_rfl)) rfl ?_
  exact ⟨_, _, by first | rfl | (simp [errW_none, errW_some] <;> rfl) | (simp [*, errW_none, errW_some] <;> rfl), by refine ZQ ?_; exact Kd.R_mono (Kd.R_far (p := ⟨gb245, 2, none⟩) (Kd.R_far (p := ⟨gb245, 1, none⟩) (Kd.R_far (p := ⟨gb245, 0, none⟩) (Kd.R_far (p := ⟨gb252, 2, none⟩) (Kd.R_far (p := ⟨gb252, 1, none⟩) (Kd.R_far (p := ⟨gb252, 0, none⟩) (Kd.R_types (Kd.R_types HO248.out BK252.out (by decide)) BK245.out (by decide)) (fun _ hk => hk.1.2) (.int .i64 a0_0)) (fun _ hk => hk.1.2) (.slice Ao12 y246.length co12)) (fun _ hk => hk.1.2) (.slice Ao11 y249.length co11)) (fun _ hk => hk.2) (.int .i64 a0_0)) (fun _ hk => hk.2) (.slice Ao12 y246.length co12)) (fun _ hk => hk.2) (.slice Ao11 y249.length co11)) (fun _ hk => hk.1.1.2), by refine ZQ ?_; exact Kd.R_mono (Kd.R_far (p := ⟨gb245, 2, none⟩) (Kd.R_far (p := ⟨gb245, 1, none⟩) (Kd.R_far (p := ⟨gb245, 0, none⟩) (Kd.R_far (p := ⟨gb252, 2, none⟩) (Kd.R_far (p := ⟨gb252, 1, none⟩) (Kd.R_far (p := ⟨gb252, 0, none⟩) (Kd.R_types (Kd.R_types HO251.out BK252.out (by decide)) BK245.out (by decide)) (fun _ hk => hk.1.2) (.int .i64 a0_0)) (fun _ hk => hk.1.2) (.slice Ao12 y246.length co12)) (fun _ hk => hk.1.2) (.slice Ao11 y249.length co11)) (fun _ hk => hk.2) (.int .i64 a0_0)) (fun _ hk => hk.2) (.slice Ao12 y246.length co12)) (fun _ hk => hk.2) (.slice Ao11 y249.length co11)) (fun _ hk => hk.1.1.2), ZB⟩
 ·rw [if_neg c3] at H
  have c3b0 : decide ((l0_1.length : Int) < 2) = false := decide_eq_false c3
  have c3b1 : decide (l0_1.length < 2) = false := decide_eq_false (by omega)
  clear c3
  by_cases c19 : 0 < (l0_1.length : Int)
  ·rw [if_pos c19] at H
   have c19b0 : decide (0 < (l0_1.length : Int)) = true := decide_eq_true c19
   have c19b1 : decide (0 < l0_1.length) = true := decide_eq_true (by omega)
   clear c19
   replace H := Option.bind_eq_some_iff.mp H
   obtain ⟨t254, A200, H⟩ := H
   replace H : (spec_l08Step.l0 k a1 a0_0 (l0_1.length : Int) t254 0 0 a0_0 l0_1 l0_2 a0_0 y246 y249) = some (r1, r2, r3, r4) := H
   have A20 := Aside0.mk A200
   clear A200
   have H' := Aside0.mk H
   clear H
   go_enter Try.func63, Try.ntmps63
   try go_wp2_with (first | ((with_reducible refine gate_dst (N := 2) rfl ?_); refine box_event ?hg (N := 2) ?hd (cs := #[.int .i64 a0_0, .slice A0_1 l0_1.length c0_1, .slice A0_2 l0_2.length c0_2]) (t := 29) ?hr ?_; (case hd => rfl); (case hg => rfl); (case hr => first | (go_simp; done) | (go_simp; rfl)); intro gb244 hg w21 hbox hb; have n0_ := Aside0.mk (below_step ZB hb); have n1_ := Aside0.mk (hbox); have n2_ := Aside0.mk ((ZG hg : w.heap.size ≤ gb244)); have n3_ := Aside0.mk ((ZG hg : w.heap.size ≤ gb244)); clear HB; have HB := n0_; have BK244 := n1_; have GW244 := n2_; have GE244 := n3_; clear n0_ n1_ n2_ n3_; clear hb hbox hg) | ((with_reducible refine gate_dst (N := 4) rfl ?_); refine box_event ?hg (N := 4) ?hd (cs := #[.int .i64 0, .slice none 0 0, .slice none 0 0]) (t := 29) ?hr ?_; (case hd => rfl); (case hg => rfl); (case hr => first | (go_simp; done) | (go_simp; rfl)); intro gb245 hg w22 hbox hb; have n0_ := ZL BK244 hb; have n1_ := Aside0.mk (below_step ZB hb); have n2_ := Aside0.mk (hbox); have n3_ := Aside0.mk ((ZG hg : w.heap.size ≤ gb245)); have n4_ := Aside0.mk ((ZG hg : w.heap.size ≤ gb245)); have n5_ := Aside0.mk ((ZN hg BK244 : gb244 ≠ gb245)); have n6_ := Aside0.mk ((ZM hg BK244 : gb245 ≠ gb244)); clear BK244; clear HB; have BK244 := n0_; have HB := n1_; have BK245 := n2_; have GW245 := n3_; have GE245 := n4_; have NB244_245 := n5_; have NB245_244 := n6_; clear n0_ n1_ n2_ n3_ n4_ n5_ n6_; clear hb hbox hg))
   have n0_ := Aside0.mk (blk_drew BK244.out)
   have n1_ := Aside0.mk (blk_drew BK245.out)
   have n2_ := Aside0.mk (below_drew1 HB.out)
   clear BK244
   clear BK245
   clear HB
   have BK244 := n0_
   have BK245 := n1_
   have HB := n2_
   clear n0_ n1_ n2_
   refine start_ (n := 7) (S := fun w' => w'.cell? ⟨gb244, 0, none⟩ = some (.int .i64 a0_0) ∧ w'.cell? ⟨gb244, 1, none⟩ = some (.slice A0_1 l0_1.length c0_1) ∧ w'.cell? ⟨gb244, 2, none⟩ = some (.slice A0_2 l0_2.length c0_2)) (ds := []) #[false, false, false, false, false, false, false] (by kernel_rfl) rfl rfl ⟨(blk_cell BK244.out 0).trans rfl, (blk_cell BK244.out 1).trans rfl, (blk_cell BK244.out 2).trans rfl⟩ (fun hHeld => ?_)
   generalize w22.drew = w23 at BK244 BK245 HB hHeld ⊢
   refine Zp 0 (some 13) (h := ?_)
   refine Zp 2 (some 15) (h := ?_)
   refine Zt3 1 (some 14) hHeld (h := ?_)
   refine Zp 5 (some 6) (h := ?_)
   refine Zt3 3 (some 16) hHeld (h := ?_)
   refine Zp 4 (some 17) (h := ?_)
   refine Zp 6 (some 7) (h := ?_)
   refine done_ (by kernel_rfl) ?_
   try go_wp2_with (first | ((with_reducible refine gate_dst (N := 19) rfl ?_); refine Kd.R_lit (Kd.int .i64) _ 2 ?hg (N := 19) ?hd (xs := ([] : List Int)) (inner := []) (ok := fun _ => True) (okp := fun _ => True) ?hr ?hp (fun _ hk => hk) trivial (Below.refl _ _) (Nat.le_refl _) (by simp) ?_; (case hd => rfl); (case hg => rfl); (case hr => first | (go_simp; done) | (go_simp; rfl)); (case hp => exact (Reps.none _ _)); intro v247 w24 ho25 hb hg_ hnew_; clear hg_ hnew_; (first | rw [← Ny246.out] at ho25 | (simp only [Int.reduceToNat] at ho25; rw [← Ny246.out] at ho25)); have n0_ := Aside0.mk (Kd.R_lower ho25 (below_size ZB)); have n1_ := ZL BK244 hb; have n2_ := ZL BK245 hb; have n3_ := Aside0.mk (below_step ZB hb); clear BK244; clear BK245; clear HB; have HO248 := n0_; have BK244 := n1_; have BK245 := n2_; have HB := n3_; clear n0_ n1_ n2_ n3_; clear hb ho25) | ((with_reducible refine gate_dst (N := 20) rfl ?_); refine Kd.R_lit (Kd.int .i64) _ 2 ?hg (N := 20) ?hd (xs := ([] : List Int)) (inner := []) (ok := fun _ => True) (okp := fun _ => True) ?hr ?hp (fun _ hk => hk) trivial (Below.refl _ _) (Nat.le_refl _) (by simp) ?_; (case hd => rfl); (case hg => rfl); (case hr => first | (go_simp; done) | (go_simp; rfl)); (case hp => exact (Reps.none _ _)); intro v250 w26 ho27 hb hg_ hnew_; clear hg_ hnew_; (first | rw [← Ny249.out] at ho27 | (simp only [Int.reduceToNat] at ho27; rw [← Ny249.out] at ho27)); have n0_ := Aside0.mk (Kd.R_elder' (ZR HO248) (Kd.R_base ho27) hb); have n1_ := Aside0.mk (Kd.R_lower (Kd.R_new' ho27 (Kd.R_lt (ZR HO248))) (below_size ZB)); have n2_ := ZL BK244 hb; have n3_ := ZL BK245 hb; have n4_ := Aside0.mk (below_step ZB hb); clear HO248; clear BK244; clear BK245; clear HB; have HO248 := n0_; have HO251 := n1_; have BK244 := n2_; have BK245 := n3_; have HB := n4_; clear n0_ n1_ n2_ n3_ n4_; clear hb ho27; obtain ⟨Ao28, co28, eo28⟩ := Kd.R_slice HO251.out; subst eo28; obtain ⟨Ao29, co29, eo29⟩ := Kd.R_slice HO248.out; subst eo29) | ((with_reducible refine gate_dst (N := 8) rfl ?_); refine box_event ?hg (N := 8) ?hd (cs := #[.int .i64 0, .slice none 0 0, .slice none 0 0]) (t := 29) ?hr ?_; (case hd => rfl); (case hg => rfl); (case hr => first | (go_simp; done) | (go_simp; rfl)); intro gb252 hg w30 hbox hb; have n0_ := Aside0.mk (Kd.R_below (ZR HO248) hb); have n1_ := Aside0.mk (Kd.R_below (ZR HO251) hb); have n2_ := ZL BK244 hb; have n3_ := ZL BK245 hb; have n4_ := Aside0.mk (below_step ZB hb); have n5_ := Aside0.mk (hbox); have n6_ := Aside0.mk ((ZG hg : w.heap.size ≤ gb252)); have n7_ := Aside0.mk ((ZG hg : w.heap.size ≤ gb252)); have n8_ := Aside0.mk ((ZN hg BK244 : gb244 ≠ gb252)); have n9_ := Aside0.mk ((ZM hg BK244 : gb252 ≠ gb244)); have n10_ := Aside0.mk ((ZN hg BK245 : gb245 ≠ gb252)); have n11_ := Aside0.mk ((ZM hg BK245 : gb252 ≠ gb245)); clear HO248; clear HO251; clear BK244; clear BK245; clear HB; have HO248 := n0_; have HO251 := n1_; have BK244 := n2_; have BK245 := n3_; have HB := n4_; have BK252 := n5_; have GW252 := n6_; have GE252 := n7_; have NB244_252 := n8_; have NB252_244 := n9_; have NB245_252 := n10_; have NB252_245 := n11_; clear n0_ n1_ n2_ n3_ n4_ n5_ n6_ n7_ n8_ n9_ n10_ n11_; clear hb hbox hg; have hnb31 := NB252_244.out; have hnc31 := NB244_252.out; have hnb32 := NB252_245.out; have hnc32 := NB245_252.out; obtain ⟨hcz33_0, hcz33_1, hcz33_2, hfz33_0, hfz33_1, hfz33_2⟩ := ZD3 BK252; have hnb34 := NB244_245.out; have hnc34 := NB245_244.out; obtain ⟨hcz35_0, hcz35_1, hcz35_2, hfz35_0, hfz35_1, hfz35_2⟩ := ZD3 BK244; have p253 : 0 ≤ (0 : Int) := (by omega); have q253 : 0 < (l0_1.length : Int) := of_decide_eq_true (by first | (with_reducible assumption) | assumption); obtain ⟨ad253, e253, hx253_0⟩ := Kd.at_int HR0_1.out 0 p253 q253; cases e253; have qi253 : (0 < l0_1.length) = True := eq_true (by omega); (try rw [show ((0 : Int)).toNat = 0 from rfl] at hx253_0); (try rw [Addr.add_zero'] at hx253_0); have hn253_0 : ad253.block ≠ gb252 := Nat.ne_of_lt (Nat.lt_of_lt_of_le (by have := World.block_lt_of_cell? _ _ hx253_0; first | rwa [add_block] at this | exact this) GW252.out); have hn253_1 : ad253.block ≠ gb252 := Nat.ne_of_lt (Nat.lt_of_lt_of_le (by have := World.block_lt_of_cell? _ _ hx253_0; first | rwa [add_block] at this | exact this) GW252.out); have hn253_2 : ad253.block ≠ gb252 := Nat.ne_of_lt (Nat.lt_of_lt_of_le (by have := World.block_lt_of_cell? _ _ hx253_0; first | rwa [add_block] at this | exact this) GW252.out); replace hx253_0 := (HB.out.cell (World.block_lt_of_cell? w _ hx253_0)).trans hx253_0; replace hx253_0 := (cell_far (p := ⟨gb252, 0, none⟩) (by first | (rw [add_block]; exact hn253_0) | (show (Addr.add _ _).block ≠ _; rw [add_block]; exact hn253_0) | exact hn253_0) (.int .i64 a0_0)).trans hx253_0; replace hx253_0 := (cell_far (p := ⟨gb252, 1, none⟩) (by first | (rw [add_block]; exact hn253_1) | (show (Addr.add _ _).block ≠ _; rw [add_block]; exact hn253_1) | exact hn253_1) (.slice Ao29 y246.length co29)).trans hx253_0; replace hx253_0 := (cell_far (p := ⟨gb252, 2, none⟩) (by first | (rw [add_block]; exact hn253_2) | (show (Addr.add _ _).block ≠ _; rw [add_block]; exact hn253_2) | exact hn253_2) (.slice Ao28 y249.length co28)).trans hx253_0; clear hn253_0; clear hn253_1; clear hn253_2; replace p253 := eq_true p253; replace q253 := eq_true q253) | ((with_reducible refine gate_callee (f := 99) rfl ?_); refine goesL_ (some 32) rfl rfl Try.func99 (by kernel_rfl) rfl #[.int .i64 a0_0, .int .i64 (wrap64 ((rd l0_1 0) - a1))] rfl ZA ?_; (with_reducible refine (spec_l01Mod.calls a0_0 (wrap64 ((rd l0_1 0) - a1)) t254 _ A20.out).mono ?_); rintro e w' ⟨rfl, ⟨nd, rfl⟩⟩; refine ⟨_, rfl, ?_⟩))
   go_loopg [9, 10, 11] k (fun kq v9 v10 v11 w' => ∃ (x9_1 : Int) (x10_1 : Int) (x11_1 : Int) (x246000_1 : Int) (x253001_1 : List Int) (x253002_1 : List Int) (u253001 : Value) (u253002 : Value), v9 = .int .i64 x9_1 ∧ v10 = .int .i64 x10_1 ∧ v11 = .int .i64 x11_1 ∧ Aside0 (spec_l08Step.l0 kq a1 a0_0 (l0_1.length : Int) x9_1 x10_1 x11_1 a0_0 l0_1 l0_2 a0_0 x253001_1 x253002_1 = some (r1, r2, r3, r4)) ∧ Aside0 (kq ≤ k) ∧ Aside0 (Kd.R (Kd.int .i64) 2 w' w.heap.size (fun k_ => some k_ ≠ (u253002 : Value).ownBlock) u253001 x253001_1) ∧ Aside0 (Kd.R (Kd.int .i64) 2 w' w.heap.size (fun k_ => some k_ ≠ (u253001 : Value).ownBlock) u253002 x253002_1) ∧ Aside0 (w'.heap[gb244]? = some (.cells #[.int .i64 a0_0, (.slice (some ad253) l0_1.length c0_1), (.slice A0_2 l0_2.length c0_2)] 29 (0, 0))) ∧ Aside0 (w'.heap[gb245]? = some (.cells #[.int .i64 x246000_1, (.slice none 0 0), (.slice none 0 0)] 29 (0, 0))) ∧ Aside0 (w'.heap[gb252]? = some (.cells #[.int .i64 a0_0, u253001, u253002] 29 (0, 0))) ∧ Aside0 (Below w.heap.size w w'))
   case atStart => exact ⟨(t254), (0), (0), (0), (y246), (y249), (.slice Ao29 y246.length co29), (.slice Ao28 y249.length co28), (by first | rfl | (simp; done) | (simp [*]; done)), (by first | rfl | (simp; done) | (simp [*]; done)), (by first | rfl | (simp; done) | (simp [*]; done)), H', ⟨Nat.le_refl _⟩, ⟨by refine ZQ ?_; exact Kd.R_mono (Kd.R_far (p := ⟨gb252, 2, none⟩) (Kd.R_far (p := ⟨gb252, 1, none⟩) (Kd.R_far (p := ⟨gb252, 0, none⟩) (Kd.R_types HO248.out BK252.out (by decide)) (fun _ hk => hk.2) (.int .i64 a0_0)) (fun _ hk => hk.2) (.slice Ao29 y246.length co29)) (fun _ hk => hk.2) (.slice Ao28 y249.length co28)) (fun _ hk => hk.1.2)⟩, ⟨by refine ZQ ?_; exact Kd.R_mono (Kd.R_far (p := ⟨gb252, 2, none⟩) (Kd.R_far (p := ⟨gb252, 1, none⟩) (Kd.R_far (p := ⟨gb252, 0, none⟩) (Kd.R_types HO251.out BK252.out (by decide)) (fun _ hk => hk.2) (.int .i64 a0_0)) (fun _ hk => hk.2) (.slice Ao29 y246.length co29)) (fun _ hk => hk.2) (.slice Ao28 y249.length co28)) (fun _ hk => hk.1.2)⟩, ⟨by refine ZS ?_; refine blk_far ?_ NB244_252.out _; refine ZS ?_; refine blk_far ?_ NB244_252.out _; refine ZS ?_; refine blk_far ?_ NB244_252.out _; refine ZS ?_; exact BK244.out⟩, ⟨by refine ZS ?_; refine blk_far ?_ NB245_252.out _; refine ZS ?_; refine blk_far ?_ NB245_252.out _; refine ZS ?_; refine blk_far ?_ NB245_252.out _; refine ZS ?_; exact BK245.out⟩, ⟨by refine ZS ?_; refine blk_put (cs := #[.int .i64 a0_0, .slice Ao29 y246.length co29, .slice none 0 0]) ?_ 2 _ rfl; refine ZS ?_; refine blk_put (cs := #[.int .i64 a0_0, .slice none 0 0, .slice none 0 0]) ?_ 1 _ rfl; refine ZS ?_; refine blk_put (cs := #[.int .i64 0, .slice none 0 0, .slice none 0 0]) ?_ 0 _ rfl; refine ZS ?_; exact BK252.out⟩, ⟨ZB⟩⟩
   case round =>
    clear H'
    try clear c1
    try clear p2
    try clear q2
    try clear hx2
    try clear qi2
    try clear c3
    try clear c3b0
    try clear c3b1
    try clear c6
    try clear p6
    try clear c9
    try clear c14
    try clear c15
    try clear c17
    try clear c19
    try clear c19b0
    try clear c19b1
    try clear p25
    try clear q25
    try clear hx25
    try clear qi25
    try clear c31
    try clear c32
    try clear c34
    try clear hcz16_0
    try clear hcz16_1
    try clear hcz16_2
    try clear hcz18_0
    try clear hcz18_1
    try clear hcz18_2
    try clear hcz33_0
    try clear hcz33_1
    try clear hcz33_2
    try clear hcz35_0
    try clear hcz35_1
    try clear hcz35_2
    try clear hfz16_0
    try clear hfz16_1
    try clear hfz16_2
    try clear hfz18_0
    try clear hfz18_1
    try clear hfz18_2
    try clear hfz33_0
    try clear hfz33_1
    try clear hfz33_2
    try clear hfz35_0
    try clear hfz35_1
    try clear hfz35_2
    try clear hx253_0
    try clear p253
    try clear q253
    obtain ⟨x9_1, x10_1, x11_1, x246000_1, x253001_1, x253002_1, u253001, u253002, rfl, rfl, rfl, HA, HK1, HO_253001, HO_253002, BK244, BK245, BK252, HB⟩ := hrel
    cases gk with
    | zero => exact absurd HA.out (by simp [spec_l08Step.l0])
    | succ k1 =>
     have H := HA.out
     clear HA
     simp only [spec_l08Step.l0] at H
     by_cases c36 : (wrap64 (x11_1 + 1)) < (l0_1.length : Int)
     ·rw [if_pos c36] at H
      have c36b0 : decide ((wrap64 (x11_1 + 1)) < (l0_1.length : Int)) = true := decide_eq_true c36
      clear c36
      by_cases c37 : x9_1 = 0
      ·rw [if_pos c37] at H
       have c37b0 : (x9_1 == 0) = true := beq_iff_eq.mpr c37
       have c37b1 : (x9_1 != 0) = false := bne_eq_false_iff_eq.mpr c37
       clear c37
       simp only [Option.some.injEq, Prod.mk.injEq] at H
       obtain ⟨rfl, rfl, rfl, rfl⟩ := H
       have hnb38 := NB252_244.out
       have hnc38 := NB244_252.out
       have hnb39 := NB252_245.out
       have hnc39 := NB245_252.out
       obtain ⟨hcz40_0, hcz40_1, hcz40_2, hfz40_0, hfz40_1, hfz40_2⟩ := ZD3 BK252
       have hnb41 := NB245_244.out
       have hnc41 := NB244_245.out
       obtain ⟨hcz42_0, hcz42_1, hcz42_2, hfz42_0, hfz42_1, hfz42_2⟩ := ZD3 BK245
       obtain ⟨Ao43, co43, eo43⟩ := Kd.R_slice HO_253001.out
       subst eo43
       obtain ⟨Ao44, co44, eo44⟩ := Kd.R_slice HO_253002.out
       subst eo44
       go_wp2
       refine bodyPost_ret (results_ct rfl _ _ gb245 29 #[.int .i64 a0_0, .slice Ao43 x253001_1.length co43, .slice Ao44 x253002_1.length co44] (0, 0) _ rfl (by refine ZS ?_; refine blk_put (cs := #[.int .i64 a0_0, .slice Ao43 x253001_1.length co43, .slice none 0 0]) ?_ 2 _ rfl; refine ZS ?_; refine blk_put (cs := #[.int .i64 a0_0, .slice none 0 0, .slice none 0 0]) ?_ 1 _ rfl; refine ZS ?_; refine blk_put (cs := #[.int .i64 x246000_1, .slice none 0 0, .slice none 0 0]) ?_ 0 _ rfl; refine ZS ?_; exact BK245.out) Try.underlying29 rfl (by kernel_rfl)) rfl ?_
       exact ⟨_, _, by first | rfl | (simp [errW_none, errW_some] <;> rfl) | (simp [*, errW_none, errW_some] <;> rfl), by refine ZQ ?_; exact Kd.R_mono (Kd.R_far (p := ⟨gb245, 2, none⟩) (Kd.R_far (p := ⟨gb245, 1, none⟩) (Kd.R_far (p := ⟨gb245, 0, none⟩) (Kd.R_types HO_253001.out BK245.out (by decide)) (fun _ hk => hk.2) (.int .i64 a0_0)) (fun _ hk => hk.2) (.slice Ao43 x253001_1.length co43)) (fun _ hk => hk.2) (.slice Ao44 x253002_1.length co44)) (fun _ hk => hk.1), by refine ZQ ?_; exact Kd.R_mono (Kd.R_far (p := ⟨gb245, 2, none⟩) (Kd.R_far (p := ⟨gb245, 1, none⟩) (Kd.R_far (p := ⟨gb245, 0, none⟩) (Kd.R_types HO_253002.out BK245.out (by decide)) (fun _ hk => hk.2) (.int .i64 a0_0)) (fun _ hk => hk.2) (.slice Ao43 x253001_1.length co43)) (fun _ hk => hk.2) (.slice Ao44 x253002_1.length co44)) (fun _ hk => hk.1), ZB⟩
      ·rw [if_neg c37] at H
       have c37b0 : (x9_1 == 0) = false := beq_eq_false_iff_ne.mpr c37
       have c37b1 : (x9_1 != 0) = true := bne_iff_ne.mpr c37
       obtain ⟨ji45, hji45⟩ : ∃ j_ : Int, (wrap64 (x11_1 + 1)) = j_ := ⟨_, rfl⟩
       replace H : (if 0 ≤ (ji45) then (if (ji45) < (l0_2.length : Int) then ((spec_l01Inverse.f k1 a0_0 x9_1).bind fun t256 => (if a0_0 = 0 then (none) else (if x253001_1.length < 17592186044416 then ((some (x253001_1 ++ [Int.tmod (wrap64 ((wrap64 (x9_1 + (Int.tmod (wrap64 ((rd l0_2 (ji45)) * t256)) a0_0))) + a1)) a0_0] : List Int)).bind fun y257 => (if x11_1 = 0 then (if 0 < (l0_2.length : Int) then (if x253002_1.length < 17592186044416 then (if (ji45) < (l0_1.length : Int) then ((spec_l01Mod.f a0_0 (wrap64 ((wrap64 ((rd l0_1 (ji45)) - a1)) - (Int.tmod (wrap64 ((rd l0_2 (ji45)) * t256)) a0_0)))).bind fun t265 => (spec_l08Step.l0 k1 a1 a0_0 (l0_1.length : Int) t265 (Int.tmod (wrap64 ((rd l0_2 (ji45)) * t256)) a0_0) ji45 a0_0 l0_1 l0_2 a0_0 y257 (x253002_1 ++ [Int.tmod (wrap64 ((rd l0_2 0) * x9_1)) a0_0]))) else (none)) else (none)) else (none)) else (if x253002_1.length < 17592186044416 then (if (ji45) < (l0_1.length : Int) then ((spec_l01Mod.f a0_0 (wrap64 ((wrap64 ((rd l0_1 (ji45)) - a1)) - (Int.tmod (wrap64 ((rd l0_2 (ji45)) * t256)) a0_0)))).bind fun t270 => (spec_l08Step.l0 k1 a1 a0_0 (l0_1.length : Int) t270 (Int.tmod (wrap64 ((rd l0_2 (ji45)) * t256)) a0_0) ji45 a0_0 l0_1 l0_2 a0_0 y257 (x253002_1 ++ [Int.tmod (wrap64 (x9_1 * x10_1)) a0_0]))) else (none)) else (none)))) else (none)))) else (none)) else (none)) = some (r1, r2, r3, r4) := by first | (rw [hji45] at H; exact H) | (simp only [hji45] at H ⊢; exact H)
       (try rw [hji45] at c36b0)
       have hji45w : (IntKind.i64.wrap (x11_1 + 1)) = ji45 := (i64_w _).trans hji45
       by_cases c46 : 0 ≤ (ji45)
       ·rw [if_pos c46] at H
        have c46b0 : decide (0 ≤ (ji45)) = true := decide_eq_true c46
        clear c46
        by_cases c47 : (ji45) < (l0_2.length : Int)
        ·rw [if_pos c47] at H
         have c47b0 : decide ((ji45) < (l0_2.length : Int)) = true := decide_eq_true c47
         clear c47
         replace H := Option.bind_eq_some_iff.mp H
         obtain ⟨t256, A480, H⟩ := H
         replace H : (if a0_0 = 0 then (none) else (if x253001_1.length < 17592186044416 then ((some (x253001_1 ++ [Int.tmod (wrap64 ((wrap64 (x9_1 + (Int.tmod (wrap64 ((rd l0_2 (ji45)) * t256)) a0_0))) + a1)) a0_0] : List Int)).bind fun y257 => (if x11_1 = 0 then (if 0 < (l0_2.length : Int) then (if x253002_1.length < 17592186044416 then (if (ji45) < (l0_1.length : Int) then ((spec_l01Mod.f a0_0 (wrap64 ((wrap64 ((rd l0_1 (ji45)) - a1)) - (Int.tmod (wrap64 ((rd l0_2 (ji45)) * t256)) a0_0)))).bind fun t265 => (spec_l08Step.l0 k1 a1 a0_0 (l0_1.length : Int) t265 (Int.tmod (wrap64 ((rd l0_2 (ji45)) * t256)) a0_0) ji45 a0_0 l0_1 l0_2 a0_0 y257 (x253002_1 ++ [Int.tmod (wrap64 ((rd l0_2 0) * x9_1)) a0_0]))) else (none)) else (none)) else (none)) else (if x253002_1.length < 17592186044416 then (if (ji45) < (l0_1.length : Int) then ((spec_l01Mod.f a0_0 (wrap64 ((wrap64 ((rd l0_1 (ji45)) - a1)) - (Int.tmod (wrap64 ((rd l0_2 (ji45)) * t256)) a0_0)))).bind fun t270 => (spec_l08Step.l0 k1 a1 a0_0 (l0_1.length : Int) t270 (Int.tmod (wrap64 ((rd l0_2 (ji45)) * t256)) a0_0) ji45 a0_0 l0_1 l0_2 a0_0 y257 (x253002_1 ++ [Int.tmod (wrap64 (x9_1 * x10_1)) a0_0]))) else (none)) else (none)))) else (none))) = some (r1, r2, r3, r4) := H
         have A48 := Aside0.mk A480
         clear A480
         by_cases c49 : a0_0 = 0
         ·rw [if_pos c49] at H
          exact absurd H (by simp)
         ·rw [if_neg c49] at H
          have c49b0 : (a0_0 == 0) = false := beq_eq_false_iff_ne.mpr c49
          have c49b1 : (a0_0 != 0) = true := bne_iff_ne.mpr c49
          by_cases c50 : x253001_1.length < 17592186044416
          ·rw [if_pos c50] at H
           have LMc50 := Aside0.mk c50
           clear c50
           obtain ⟨y257, hy257⟩ : ∃ y_ : List Int, y_ = (x253001_1 ++ [Int.tmod (wrap64 ((wrap64 (x9_1 + (Int.tmod (wrap64 ((rd l0_2 (ji45)) * t256)) a0_0))) + a1)) a0_0]) := ⟨_, rfl⟩
           replace H : (if x11_1 = 0 then (if 0 < (l0_2.length : Int) then (if x253002_1.length < 17592186044416 then (if (ji45) < (l0_1.length : Int) then ((spec_l01Mod.f a0_0 (wrap64 ((wrap64 ((rd l0_1 (ji45)) - a1)) - (Int.tmod (wrap64 ((rd l0_2 (ji45)) * t256)) a0_0)))).bind fun t265 => (spec_l08Step.l0 k1 a1 a0_0 (l0_1.length : Int) t265 (Int.tmod (wrap64 ((rd l0_2 (ji45)) * t256)) a0_0) ji45 a0_0 l0_1 l0_2 a0_0 y257 (x253002_1 ++ [Int.tmod (wrap64 ((rd l0_2 0) * x9_1)) a0_0]))) else (none)) else (none)) else (none)) else (if x253002_1.length < 17592186044416 then (if (ji45) < (l0_1.length : Int) then ((spec_l01Mod.f a0_0 (wrap64 ((wrap64 ((rd l0_1 (ji45)) - a1)) - (Int.tmod (wrap64 ((rd l0_2 (ji45)) * t256)) a0_0)))).bind fun t270 => (spec_l08Step.l0 k1 a1 a0_0 (l0_1.length : Int) t270 (Int.tmod (wrap64 ((rd l0_2 (ji45)) * t256)) a0_0) ji45 a0_0 l0_1 l0_2 a0_0 y257 (x253002_1 ++ [Int.tmod (wrap64 (x9_1 * x10_1)) a0_0]))) else (none)) else (none))) = some (r1, r2, r3, r4) := by first | (rw [hy257]; with_reducible exact H) | (have H2_ := (Option.bind_some _ _).symm.trans H; rw [hy257]; with_reducible exact H2_) | (have H2_ := (Option.bind_some _ _).symm.trans H; with_reducible exact H2_) | with_reducible exact H | (rw [hy257]; exact H) | exact H
           have Ny257 := Aside0.mk hy257
           clear hy257
           by_cases c51 : x11_1 = 0
           ·rw [if_pos c51] at H
            have c51b0 : (x11_1 == 0) = true := beq_iff_eq.mpr c51
            have c51b1 : (x11_1 != 0) = false := bne_eq_false_iff_eq.mpr c51
            clear c51
            by_cases c52 : 0 < (l0_2.length : Int)
            ·rw [if_pos c52] at H
             have c52b0 : decide (0 < (l0_2.length : Int)) = true := decide_eq_true c52
             have c52b1 : decide (0 < l0_2.length) = true := decide_eq_true (by omega)
             clear c52
             by_cases c53 : x253002_1.length < 17592186044416
             ·rw [if_pos c53] at H
              have LMc53 := Aside0.mk c53
              clear c53
              obtain ⟨y261, hy261⟩ : ∃ y_ : List Int, y_ = (x253002_1 ++ [Int.tmod (wrap64 ((rd l0_2 0) * x9_1)) a0_0]) := ⟨_, rfl⟩
              replace H : (if (ji45) < (l0_1.length : Int) then ((spec_l01Mod.f a0_0 (wrap64 ((wrap64 ((rd l0_1 (ji45)) - a1)) - (Int.tmod (wrap64 ((rd l0_2 (ji45)) * t256)) a0_0)))).bind fun t265 => (spec_l08Step.l0 k1 a1 a0_0 (l0_1.length : Int) t265 (Int.tmod (wrap64 ((rd l0_2 (ji45)) * t256)) a0_0) ji45 a0_0 l0_1 l0_2 a0_0 y257 y261)) else (none)) = some (r1, r2, r3, r4) := by first | (rw [hy261]; with_reducible exact H) | (have H2_ := (Option.bind_some _ _).symm.trans H; rw [hy261]; with_reducible exact H2_) | (have H2_ := (Option.bind_some _ _).symm.trans H; with_reducible exact H2_) | with_reducible exact H | (rw [hy261]; exact H) | exact H
              have Ny261 := Aside0.mk hy261
              clear hy261
              by_cases c54 : (ji45) < (l0_1.length : Int)
              ·rw [if_pos c54] at H
               have c54b0 : decide ((ji45) < (l0_1.length : Int)) = true := decide_eq_true c54
               clear c54
               replace H := Option.bind_eq_some_iff.mp H
               obtain ⟨t265, A550, H⟩ := H
               replace H : (spec_l08Step.l0 k1 a1 a0_0 (l0_1.length : Int) t265 (Int.tmod (wrap64 ((rd l0_2 (ji45)) * t256)) a0_0) ji45 a0_0 l0_1 l0_2 a0_0 y257 y261) = some (r1, r2, r3, r4) := H
               have A55 := Aside0.mk A550
               clear A550
               have H' := Aside0.mk H
               clear H
               try go_wp2
               have n0_ := Aside0.mk (Kd.R_drew HO_253001.out)
               have n1_ := Aside0.mk (Kd.R_drew HO_253002.out)
               have n2_ := Aside0.mk (blk_drew BK244.out)
               have n3_ := Aside0.mk (blk_drew BK245.out)
               have n4_ := Aside0.mk (blk_drew BK252.out)
               have n5_ := Aside0.mk (below_drew1 HB.out)
               clear HO_253001
               clear HO_253002
               clear BK244
               clear BK245
               clear BK252
               clear HB
               have HO_253001 := n0_
               have HO_253002 := n1_
               have BK244 := n2_
               have BK245 := n3_
               have BK252 := n4_
               have HB := n5_
               clear n0_ n1_ n2_ n3_ n4_ n5_
               have p255 : 0 ≤ ((ji45) : Int) := of_decide_eq_true (by first | (with_reducible assumption) | assumption)
               have q255 : (ji45) < (l0_2.length : Int) := of_decide_eq_true (by first | (with_reducible assumption) | assumption)
               obtain ⟨ad255, e255, hx255_0⟩ := Kd.at_int HR0_2.out (ji45) p255 q255
               have hw255_0 := hx255_0
               cases e255
               replace hx255_0 := (HB.out.cell (World.block_lt_of_cell? w _ hx255_0)).trans hx255_0
               replace p255 := eq_true p255
               replace q255 := eq_true q255
               refine start_ (n := 13) (S := fun w' => w'.cell? ⟨gb244, 0, none⟩ = some (.int .i64 a0_0) ∧ w'.cell? ⟨gb244, 1, none⟩ = some (.slice (some ad253) l0_1.length c0_1) ∧ w'.cell? ⟨gb244, 2, none⟩ = some (.slice (some ad255) l0_2.length c0_2) ∧ w'.cell? (ad255.add ((ji45)).toNat) = some (.int .i64 (rd l0_2 (ji45)))) (ds := []) #[false, false, false, false, false, false, false, false, false, false, false, false, false] (by kernel_rfl) rfl rfl ⟨(blk_cell BK244.out 0).trans rfl, (blk_cell BK244.out 1).trans rfl, (blk_cell BK244.out 2).trans rfl, ((HB.out.cell (World.block_lt_of_cell? w _ hw255_0)).trans hw255_0)⟩ (fun hHeld => ?_); refine with_tabW spec_l08Step.tab11 spec_l08Step.bits11 (fun HT_ HW_ => ?_)
               generalize wr.drew = w56 at HO_253001 HO_253002 BK244 BK245 BK252 HB hx255_0 hHeld ⊢
               refine Zpt 0 (some 42) (h := ?_)
               refine Zpt 2 (some 44) (h := ?_)
               refine Zpt 3 (some 45) (h := ?_)
               refine Zpt 6 (some 48) (h := ?_)
               refine Zpt 7 (some 49) (h := ?_)
               refine Zpt 10 (some 52) (h := ?_)
               refine ZtW4 1 (some 43) hHeld (h := ?_)
               refine Zpt 4 (some 46) (h := ?_)
               refine ZtW4 5 (some 47) hHeld (h := ?_)
               refine one_ (i := 8) (N := some 50) #[true, true, true, true, true, true, true, true, true, false, true, false, false] rfl rfl (one_of HT_.out (by kernel_rfl)) (by decide) (fun K hK => ?_)
               refine goes_ Try.func100 (by kernel_rfl) rfl #[.int .i64 a0_0, .int .i64 x9_1] (by rfl) rfl rfl ZA ?_
               with_reducible refine (spec_l01Inverse.calls k1 a0_0 x9_1 t256 _ A48.out).mono ?_
               rintro e w' ⟨rfl, ⟨nd, rfl⟩⟩
               refine ⟨_, rfl, ?_⟩
               refine hK.out _ _ ⟨(blk_cell BK244.out 0).trans rfl, (blk_cell BK244.out 1).trans rfl, (blk_cell BK244.out 2).trans rfl, ((HB.out.cell (World.block_lt_of_cell? w _ hw255_0)).trans hw255_0)⟩ (fun hHeld => ?_)
               clear hK K
               refine norm_ (a' := ?_) ?_ ?_
               rotate_left
               ·show Act.put _ (some 50) _ = _
                simp only [Act.put, List.setIfInBounds_toArray, List.set_cons_zero, List.set_cons_succ, i64_w, i32_w]
                rfl
               refine Zpt 9 (some 51) (h := ?_)
               refine Zpt 11 (some 53) (h := ?_)
               refine Zpt 12 (some 12) (h := ?_)
               refine done_ (done_of HT_.out (by kernel_rfl)) ?_
               try go_wp2
               (try (rw [drewN_self w56]; generalize hq_ : World.drewN w56 _ = w56; have n0_ : Aside0 (Kd.R (Kd.int .i64) 2 w56 w.heap.size (fun k_ => some k_ ≠ (u253002 : Value).ownBlock) u253001 x253001_1) := ⟨by rw [← hq_]; exact (ZR HO_253001)⟩; have n1_ : Aside0 (Kd.R (Kd.int .i64) 2 w56 w.heap.size (fun k_ => some k_ ≠ (u253001 : Value).ownBlock) u253002 x253002_1) := ⟨by rw [← hq_]; exact (ZR HO_253002)⟩; have n2_ : Aside0 (w56.heap[gb244]? = some (.cells #[.int .i64 a0_0, .slice (some ad253) l0_1.length c0_1, .slice (some ad255) l0_2.length c0_2] 29 (0, 0))) := ⟨by rw [← hq_]; exact (ZK BK244)⟩; have n3_ : Aside0 (w56.heap[gb245]? = some (.cells #[.int .i64 x246000_1, .slice none 0 0, .slice none 0 0] 29 (0, 0))) := ⟨by rw [← hq_]; exact (ZK BK245)⟩; have n4_ : Aside0 (w56.heap[gb252]? = some (.cells #[.int .i64 a0_0, u253001, u253002] 29 (0, 0))) := ⟨by rw [← hq_]; exact (ZK BK252)⟩; have n5_ : Aside0 (Below w.heap.size w w56) := ⟨by rw [← hq_]; exact ZB⟩; clear HO_253001 HO_253002 BK244 BK245 BK252 HB hq_; have HO_253001 := n0_; have HO_253002 := n1_; have BK244 := n2_; have BK245 := n3_; have BK252 := n4_; have HB := n5_; clear n0_ n1_ n2_ n3_ n4_ n5_))
               (try (obtain ⟨hcy244_0, hcy244_1, hcy244_2, hfy244_0, hfy244_1, hfy244_2⟩ := ZD3 BK244))
               (try (obtain ⟨hcy245_0, hcy245_1, hcy245_2, hfy245_0, hfy245_1, hfy245_2⟩ := ZD3 BK245))
               (try (obtain ⟨hcy252_0, hcy252_1, hcy252_2, hfy252_0, hfy252_1, hfy252_2⟩ := ZD3 BK252))
               have n0_ := Aside0.mk (Kd.R_drew HO_253001.out)
               have n1_ := Aside0.mk (Kd.R_drew HO_253002.out)
               have n2_ := Aside0.mk (blk_drew BK244.out)
               have n3_ := Aside0.mk (blk_drew BK245.out)
               have n4_ := Aside0.mk (blk_drew BK252.out)
               have n5_ := Aside0.mk (below_drew1 HB.out)
               clear HO_253001
               clear HO_253002
               clear BK244
               clear BK245
               clear BK252
               clear HB
               have HO_253001 := n0_
               have HO_253002 := n1_
               have BK244 := n2_
               have BK245 := n3_
               have BK252 := n4_
               have HB := n5_
               clear n0_ n1_ n2_ n3_ n4_ n5_
               refine start_ (n := 13) (S := fun w' => w'.cell? ⟨gb252, 0, none⟩ = some (.int .i64 a0_0) ∧ w'.cell? ⟨gb252, 1, none⟩ = some (u253001) ∧ w'.cell? ⟨gb252, 2, none⟩ = some (u253002)) (ds := [12]) #[false, false, false, false, false, false, false, false, false, false, false, false, false] (by kernel_rfl) rfl rfl ⟨(blk_cell BK252.out 0).trans rfl, (blk_cell BK252.out 1).trans rfl, (blk_cell BK252.out 2).trans rfl⟩ (fun hHeld => ?_); refine with_tabW spec_l08Step.tab12 spec_l08Step.bits12 (fun HT_ HW_ => ?_)
               generalize w56.drew = w57 at HO_253001 HO_253002 BK244 BK245 BK252 HB hHeld ⊢
               refine Zpt 0 (some 54) (h := ?_)
               refine Zpt 2 (some 56) (h := ?_)
               refine Zpt 3 (some 57) (h := ?_)
               refine Zpt 4 (some 58) (h := ?_)
               refine Zpt 5 (some 59) (h := ?_)
               refine Zpt 6 (some 60) (h := ?_)
               refine Zpt 7 (some 61) (h := ?_)
               refine Zpt 8 (some 62) (h := ?_)
               refine ZtW3 1 (some 55) hHeld (h := ?_)
               refine one_ (i := 9) (N := some 63) #[true, true, true, true, true, true, true, true, true, true, false, false, false] rfl rfl (one_of HT_.out (by kernel_rfl)) (by decide) (fun K hK => ?_)
               refine value_ (w1 := ?_) (v := ?_) (by rfl) rfl ?_ ?_
               rotate_left 2
               ·go_simp
                constructor
                ·rfl
                ·rfl
               refine hK.out _ _ ⟨(blk_cell (blk_alloc BK252.out _) 0).trans rfl, (blk_cell (blk_alloc BK252.out _) 1).trans rfl, (blk_cell (blk_alloc BK252.out _) 2).trans rfl⟩ (fun hHeld => ?_)
               clear hK K
               refine norm_ (a' := ?_) ?_ ?_
               rotate_left
               ·show Act.put _ (some 63) _ = _
                simp only [Act.put, List.setIfInBounds_toArray, List.set_cons_zero, List.set_cons_succ, i64_w, i32_w]
                rfl
               refine one_ (i := 10) (N := some 64) #[true, true, true, true, true, true, true, true, true, true, true, false, false] rfl rfl (one_of HT_.out (by kernel_rfl)) (by decide) (fun K hK => ?_)
               refine Kd.R_append_step (Kd.int .i64) (w0 := w) w.heap.size (by rfl) (.tmp 55) (.tmp 63) 22 2 (.int .i64 0) 8 rfl Try.underlying22 info2 rfl (by decide) (by omega) u253001 x253001_1 (Int.tmod (wrap64 ((wrap64 (x9_1 + (Int.tmod (wrap64 ((rd l0_2 (ji45)) * t256)) a0_0))) + a1)) a0_0) [.int .i64 (Int.tmod (wrap64 ((wrap64 (x9_1 + (Int.tmod (wrap64 ((rd l0_2 (ji45)) * t256)) a0_0))) + a1)) a0_0)] (fun k_ => some k_ ≠ (u253002 : Value).ownBlock) (fun _ => False) rfl rfl ?aP (fun _ hk => hk.elim) ?aF ?aO ?aB ?aS ?aL ?_
               (case aP => exact rfl)
               (case aB => exact ZB)
               (case aF => exact (fun k_ hk => Kd.fresh' (Kd.R_lt (ZR HO_253002)) k_ hk))
               (case aO => exact (ZR HO_253001))
               (case aS => exact (below_size ZB))
               (case aL => have := LMc50.out; omega)
               intro v258 w58 ho hb hg hat
               rw [← Ny257.out] at ho
               have n0_ := Aside0.mk (Kd.R_after (ok := (fun _ => True)) (by refine ZQ ?_; exact Kd.R_mono HO_253002.out (fun _ hk => (And.intro (trivial) (hk)))) hg hat)
               have n1_ := Aside0.mk (blk_grown (ZK BK244) hg (Kd.R_ne HO_253001.out BK244.out (by decide)))
               have n2_ := Aside0.mk (blk_grown (ZK BK245) hg (Kd.R_ne HO_253001.out BK245.out (by decide)))
               have n3_ := Aside0.mk (blk_grown (ZK BK252) hg (Kd.R_ne HO_253001.out BK252.out (by decide)))
               have n4_ := Aside0.mk (hb)
               have n5_ := Aside0.mk (ho)
               clear HO_253002
               clear BK244
               clear BK245
               clear BK252
               clear HB
               clear HO_253001
               have HO_253002 := n0_
               have BK244 := n1_
               have BK245 := n2_
               have BK252 := n3_
               have HB := n4_
               have HO259 := n5_
               clear n0_ n1_ n2_ n3_ n4_ n5_
               clear ho hb hg hat
               obtain ⟨Ao59, co59, eo59⟩ := Kd.R_slice HO259.out
               (first | subst eo59 | (injection eo59 with f1_ f2_ f3_; have f4_ := f1_.symm; have f5_ := f3_.symm; clear f1_ f2_ f3_; subst f4_; subst f5_))
               refine hK.out _ _ ⟨(blk_cell BK252.out 0).trans rfl, (blk_cell BK252.out 1).trans rfl, (blk_cell BK252.out 2).trans rfl⟩ (fun hHeld => ?_)
               clear hK K
               refine norm_ (a' := ?_) ?_ ?_
               rotate_left
               ·show Act.put _ (some 64) _ = _
                simp only [Act.put, List.setIfInBounds_toArray, List.set_cons_zero, List.set_cons_succ, i64_w, i32_w]
                rfl
               refine Zpt 11 (some 65) (h := ?_)
               refine last_ (i := 12) (N := none) #[true, true, true, true, true, true, true, true, true, true, true, true, true] rfl rfl (one_of HT_.out (by kernel_rfl)) (by decide) (fun K hK => ?_)
               have hs60 : w58.cell? ⟨gb252, 1, none⟩ = some (u253001) := (blk_cell BK252.out 1).trans rfl
               have hfs60 := blk_frozen BK252.out 1
               have hns60_0 := NB244_252.out
               have hns60_1 := NB245_252.out
               have hms60_0 := NB252_244.out
               have hms60_1 := NB252_245.out
               refine skip_ (w1 := ?_) (by rfl) rfl ?_ ?_
               rotate_left
               ·go_simp
                rfl
               refine hK.out _ _ ?_
               clear hK K
               refine done_ (done_of HT_.out (by kernel_rfl)) ?_
               try go_wp2
               have n0_ : Aside0 (Kd.R (Kd.int .i64) 2 (w58.setCell ⟨gb252, 1, none⟩ (.slice Ao59 y257.length co59)) w.heap.size (fun k_ => some k_ ≠ (.slice Ao59 y257.length co59 : Value).ownBlock) u253002 x253002_1) := ⟨by refine ZQ ?_; exact Kd.R_mono (Kd.R_far (p := ⟨gb252, 1, none⟩) (Kd.R_types HO_253002.out BK252.out (by decide)) (fun _ hk => hk.2) (.slice Ao59 y257.length co59)) (fun _ hk => hk.1.2)⟩
               have n1_ : Aside0 (Kd.R (Kd.int .i64) 2 (w58.setCell ⟨gb252, 1, none⟩ (.slice Ao59 y257.length co59)) w.heap.size (fun k_ => some k_ ≠ (u253002 : Value).ownBlock) (.slice Ao59 y257.length co59) y257) := ⟨by refine ZQ ?_; exact Kd.R_mono (Kd.R_far (p := ⟨gb252, 1, none⟩) (Kd.R_types HO259.out BK252.out (by decide)) (fun _ hk => hk.2) (.slice Ao59 y257.length co59)) (fun _ hk => hk.1)⟩
               have n2_ : Aside0 ((w58.setCell ⟨gb252, 1, none⟩ (.slice Ao59 y257.length co59)).heap[gb244]? = some (.cells #[.int .i64 a0_0, .slice (some ad253) l0_1.length c0_1, .slice (some ad255) l0_2.length c0_2] 29 (0, 0))) := ⟨by refine ZS ?_; refine blk_far ?_ NB244_252.out _; refine ZS ?_; exact BK244.out⟩
               have n3_ : Aside0 ((w58.setCell ⟨gb252, 1, none⟩ (.slice Ao59 y257.length co59)).heap[gb245]? = some (.cells #[.int .i64 x246000_1, .slice none 0 0, .slice none 0 0] 29 (0, 0))) := ⟨by refine ZS ?_; refine blk_far ?_ NB245_252.out _; refine ZS ?_; exact BK245.out⟩
               have n4_ : Aside0 ((w58.setCell ⟨gb252, 1, none⟩ (.slice Ao59 y257.length co59)).heap[gb252]? = some (.cells #[.int .i64 a0_0, .slice Ao59 y257.length co59, u253002] 29 (0, 0))) := ⟨by refine ZS ?_; refine blk_put (cs := #[.int .i64 a0_0, u253001, u253002]) ?_ 1 _ rfl; refine ZS ?_; exact BK252.out⟩
               have n5_ : Aside0 (Below w.heap.size w (w58.setCell ⟨gb252, 1, none⟩ (.slice Ao59 y257.length co59))) := ⟨ZB⟩
               (try clear HO_253002)
               (try clear HO259)
               (try clear BK244)
               (try clear BK245)
               (try clear BK252)
               (try clear HB)
               generalize (w58.setCell ⟨gb252, 1, none⟩ (.slice Ao59 y257.length co59)) = w61 at n0_ n1_ n2_ n3_ n4_ n5_ ⊢
               have HO_253002 := n0_
               have HO259 := n1_
               have BK244 := n2_
               have BK245 := n3_
               have BK252 := n4_
               have HB := n5_
               clear n0_ n1_ n2_ n3_ n4_ n5_
               have n0_ := Aside0.mk (Kd.R_drew HO_253002.out)
               have n1_ := Aside0.mk (Kd.R_drew HO259.out)
               have n2_ := Aside0.mk (blk_drew BK244.out)
               have n3_ := Aside0.mk (blk_drew BK245.out)
               have n4_ := Aside0.mk (blk_drew BK252.out)
               have n5_ := Aside0.mk (below_drew1 HB.out)
               clear HO_253002
               clear HO259
               clear BK244
               clear BK245
               clear BK252
               clear HB
               have HO_253002 := n0_
               have HO259 := n1_
               have BK244 := n2_
               have BK245 := n3_
               have BK252 := n4_
               have HB := n5_
               clear n0_ n1_ n2_ n3_ n4_ n5_
               have p260 : 0 ≤ (0 : Int) := (by omega)
               have q260 : 0 < (l0_2.length : Int) := of_decide_eq_true (by first | (with_reducible assumption) | assumption)
               obtain ⟨ad260, e260, hx260_0⟩ := Kd.at_int HR0_2.out 0 p260 q260
               have hw260_0 := hx260_0
               (try rw [show ((0 : Int)).toNat = 0 from rfl] at hw260_0)
               (try rw [show 0 * 1 = 0 from rfl] at hw260_0)
               (try rw [Addr.add_zero'] at hw260_0)
               obtain rfl : ad255 = ad260 := (by injection e260)
               have qi260 : (0 < l0_2.length) = True := eq_true (by omega)
               (try rw [show ((0 : Int)).toNat = 0 from rfl] at hx260_0)
               (try rw [Addr.add_zero'] at hx260_0)
               replace hx260_0 := (HB.out.cell (World.block_lt_of_cell? w _ hx260_0)).trans hx260_0
               replace p260 := eq_true p260
               replace q260 := eq_true q260
               refine start_ (n := 14) (S := fun w' => w'.cell? ⟨gb252, 0, none⟩ = some (.int .i64 a0_0) ∧ w'.cell? ⟨gb252, 1, none⟩ = some (.slice Ao59 y257.length co59) ∧ w'.cell? ⟨gb252, 2, none⟩ = some (u253002) ∧ w'.cell? ⟨gb244, 0, none⟩ = some (.int .i64 a0_0) ∧ w'.cell? ⟨gb244, 1, none⟩ = some (.slice (some ad253) l0_1.length c0_1) ∧ w'.cell? ⟨gb244, 2, none⟩ = some (.slice (some ad255) l0_2.length c0_2) ∧ w'.cell? ad255 = some (.int .i64 (rd l0_2 0))) (ds := [13]) #[false, false, false, false, false, false, false, false, false, false, false, false, false, false] (by kernel_rfl) rfl rfl ⟨(blk_cell BK252.out 0).trans rfl, (blk_cell BK252.out 1).trans rfl, (blk_cell BK252.out 2).trans rfl, (blk_cell BK244.out 0).trans rfl, (blk_cell BK244.out 1).trans rfl, (blk_cell BK244.out 2).trans rfl, ((HB.out.cell (World.block_lt_of_cell? w _ hw260_0)).trans hw260_0)⟩ (fun hHeld => ?_); refine with_tabW spec_l08Step.tab14 spec_l08Step.bits14 (fun HT_ HW_ => ?_)
               generalize w61.drew = w62 at HO_253002 HO259 BK244 BK245 BK252 HB hx260_0 hHeld ⊢
               refine Zpt 0 (some 68) (h := ?_)
               refine Zpt 2 (some 70) (h := ?_)
               refine Zpt 6 (some 74) (h := ?_)
               refine Zpt 8 (some 76) (h := ?_)
               refine ZtW7 1 (some 69) hHeld (h := ?_)
               refine ZtW7 3 (some 71) hHeld (h := ?_)
               refine Zpt 4 (some 72) (h := ?_)
               refine ZtW7 5 (some 73) hHeld (h := ?_)
               refine Zpt 7 (some 75) (h := ?_)
               refine Zpt 9 (some 77) (h := ?_)
               refine one_ (i := 10) (N := some 78) #[true, true, true, true, true, true, true, true, true, true, true, false, false, false] rfl rfl (one_of HT_.out (by kernel_rfl)) (by decide) (fun K hK => ?_)
               refine value_ (w1 := ?_) (v := ?_) (by rfl) rfl ?_ ?_
               rotate_left 2
               ·go_simp
                constructor
                ·rfl
                ·rfl
               refine hK.out _ _ ⟨(blk_cell (blk_alloc BK252.out _) 0).trans rfl, (blk_cell (blk_alloc BK252.out _) 1).trans rfl, (blk_cell (blk_alloc BK252.out _) 2).trans rfl, (blk_cell (blk_alloc BK244.out _) 0).trans rfl, (blk_cell (blk_alloc BK244.out _) 1).trans rfl, (blk_cell (blk_alloc BK244.out _) 2).trans rfl, (World.cell?_alloc_lt _ _ _ (World.block_lt_of_cell? _ _ (((HB.out.cell (World.block_lt_of_cell? w _ hw260_0)).trans hw260_0)))).trans (((HB.out.cell (World.block_lt_of_cell? w _ hw260_0)).trans hw260_0))⟩ (fun hHeld => ?_)
               clear hK K
               refine norm_ (a' := ?_) ?_ ?_
               rotate_left
               ·show Act.put _ (some 78) _ = _
                simp only [Act.put, List.setIfInBounds_toArray, List.set_cons_zero, List.set_cons_succ, i64_w, i32_w]
                rfl
               refine one_ (i := 11) (N := some 79) #[true, true, true, true, true, true, true, true, true, true, true, true, false, false] rfl rfl (one_of HT_.out (by kernel_rfl)) (by decide) (fun K hK => ?_)
               refine Kd.R_append_step (Kd.int .i64) (w0 := w) w.heap.size (by rfl) (.tmp 69) (.tmp 78) 22 2 (.int .i64 0) 8 rfl Try.underlying22 info2 rfl (by decide) (by omega) u253002 x253002_1 (Int.tmod (wrap64 ((rd l0_2 0) * x9_1)) a0_0) [.int .i64 (Int.tmod (wrap64 ((rd l0_2 0) * x9_1)) a0_0)] (fun k_ => some k_ ≠ (.slice Ao59 y257.length co59 : Value).ownBlock) (fun _ => False) rfl rfl ?aP (fun _ hk => hk.elim) ?aF ?aO ?aB ?aS ?aL ?_
               (case aP => exact rfl)
               (case aB => exact ZB)
               (case aF => exact (fun k_ hk => Kd.fresh' (Kd.R_lt (ZR HO259)) k_ hk))
               (case aO => exact (ZR HO_253002))
               (case aS => exact (below_size ZB))
               (case aL => have := LMc53.out; omega)
               intro v262 w63 ho hb hg hat
               rw [← Ny261.out] at ho
               have n0_ := Aside0.mk (blk_grown (ZK BK244) hg (Kd.R_ne HO_253002.out BK244.out (by decide)))
               have n1_ := Aside0.mk (blk_grown (ZK BK245) hg (Kd.R_ne HO_253002.out BK245.out (by decide)))
               have n2_ := Aside0.mk (blk_grown (ZK BK252) hg (Kd.R_ne HO_253002.out BK252.out (by decide)))
               have n3_ := Aside0.mk (Kd.R_after (ok := (fun _ => True)) (by refine ZQ ?_; exact Kd.R_mono HO259.out (fun _ hk => (And.intro (trivial) (hk)))) hg hat)
               have n4_ := Aside0.mk (hb)
               have n5_ := Aside0.mk (ho)
               clear BK244
               clear BK245
               clear BK252
               clear HO259
               clear HB
               clear HO_253002
               have BK244 := n0_
               have BK245 := n1_
               have BK252 := n2_
               have HO259 := n3_
               have HB := n4_
               have HO263 := n5_
               clear n0_ n1_ n2_ n3_ n4_ n5_
               clear ho hb hg hat
               obtain ⟨Ao64, co64, eo64⟩ := Kd.R_slice HO263.out
               (first | subst eo64 | (injection eo64 with f1_ f2_ f3_; have f4_ := f1_.symm; have f5_ := f3_.symm; clear f1_ f2_ f3_; subst f4_; subst f5_))
               refine hK.out _ _ ⟨(blk_cell BK252.out 0).trans rfl, (blk_cell BK252.out 1).trans rfl, (blk_cell BK252.out 2).trans rfl, (blk_cell BK244.out 0).trans rfl, (blk_cell BK244.out 1).trans rfl, (blk_cell BK244.out 2).trans rfl, ((HB.out.cell (World.block_lt_of_cell? w _ hw260_0)).trans hw260_0)⟩ (fun hHeld => ?_)
               clear hK K
               refine norm_ (a' := ?_) ?_ ?_
               rotate_left
               ·show Act.put _ (some 79) _ = _
                simp only [Act.put, List.setIfInBounds_toArray, List.set_cons_zero, List.set_cons_succ, i64_w, i32_w]
                rfl
               refine Zpt 12 (some 80) (h := ?_)
               refine last_ (i := 13) (N := none) #[true, true, true, true, true, true, true, true, true, true, true, true, true, true] rfl rfl (one_of HT_.out (by kernel_rfl)) (by decide) (fun K hK => ?_)
               have hs65 : w63.cell? ⟨gb252, 2, none⟩ = some (u253002) := (blk_cell BK252.out 2).trans rfl
               have hfs65 := blk_frozen BK252.out 2
               have hns65_0 := NB244_252.out
               have hns65_1 := NB245_252.out
               have hms65_0 := NB252_244.out
               have hms65_1 := NB252_245.out
               refine skip_ (w1 := ?_) (by rfl) rfl ?_ ?_
               rotate_left
               ·go_simp
                rfl
               refine hK.out _ _ ?_
               clear hK K
               refine done_ (done_of HT_.out (by kernel_rfl)) ?_
               have hnb66 := NB244_245.out
               have hnc66 := NB245_244.out
               have hnb67 := NB244_252.out
               have hnc67 := NB252_244.out
               obtain ⟨hcz68_0, hcz68_1, hcz68_2, hfz68_0, hfz68_1, hfz68_2⟩ := ZD3 BK244
               have p264 : 0 ≤ ((ji45) : Int) := of_decide_eq_true (by first | (with_reducible assumption) | assumption)
               have q264 : (ji45) < (l0_1.length : Int) := of_decide_eq_true (by first | (with_reducible assumption) | assumption)
               obtain ⟨ad264, e264, hx264_0⟩ := Kd.at_int HR0_1.out (ji45) p264 q264
               obtain rfl : ad253 = ad264 := (by injection e264)
               have hn264_0 : ad253.block ≠ gb252 := Nat.ne_of_lt (Nat.lt_of_lt_of_le (by have := World.block_lt_of_cell? _ _ hx264_0; first | rwa [add_block] at this | exact this) GW252.out)
               replace hx264_0 := (HB.out.cell (World.block_lt_of_cell? w _ hx264_0)).trans hx264_0
               replace hx264_0 := (cell_far (p := ⟨gb252, 2, none⟩) (by first | (rw [add_block]; exact hn264_0) | (show (Addr.add _ _).block ≠ _; rw [add_block]; exact hn264_0) | exact hn264_0) (.slice Ao64 y261.length co64)).trans hx264_0
               clear hn264_0
               replace p264 := eq_true p264
               replace q264 := eq_true q264
               try go_wp2_with (first | ((with_reducible refine gate_callee (f := 99) rfl ?_); refine goesL_ (some 103) rfl rfl Try.func99 (by kernel_rfl) rfl #[.int .i64 a0_0, .int .i64 (wrap64 ((wrap64 ((rd l0_1 (ji45)) - a1)) - (Int.tmod (wrap64 ((rd l0_2 (ji45)) * t256)) a0_0)))] rfl (by (try simp only [List.map_toArray, List.map_cons, List.map_nil]); first | done | (simp only [hji45]; rfl) | rfl | (simp only [List.length_drop, List.length_take]; rfl)) ?_; (with_reducible refine (spec_l01Mod.calls a0_0 (wrap64 ((wrap64 ((rd l0_1 (ji45)) - a1)) - (Int.tmod (wrap64 ((rd l0_2 (ji45)) * t256)) a0_0))) t265 _ A55.out).mono ?_); rintro e w' ⟨rfl, ⟨nd, rfl⟩⟩; refine ⟨_, rfl, ?_⟩))
               go_roundg k1
               case measure => have := HK1.out; omega
               case rel => exact ⟨(t265), (Int.tmod (wrap64 ((rd l0_2 (ji45)) * t256)) a0_0), (ji45), (x246000_1), (y257), (y261), (.slice Ao59 y257.length co59), (.slice Ao64 y261.length co64), (by first | rfl | (simp; done) | (simp [*]; done)), (by first | rfl | (simp; done) | (simp only [← hji45] <;> (first | rfl | simp)) | (simp [*]; done)), (by first | rfl | (simp; done) | (simp only [← hji45] <;> (first | rfl | simp)) | (simp [*]; done)), H', ⟨by have := HK1.out; omega⟩, ⟨by refine ZQ ?_; exact Kd.R_mono (Kd.R_far (p := ⟨gb252, 2, none⟩) (Kd.R_types HO259.out BK252.out (by decide)) (fun _ hk => hk.2) (.slice Ao64 y261.length co64)) (fun _ hk => hk.1.2)⟩, ⟨by refine ZQ ?_; exact Kd.R_mono (Kd.R_far (p := ⟨gb252, 2, none⟩) (Kd.R_types HO263.out BK252.out (by decide)) (fun _ hk => hk.2) (.slice Ao64 y261.length co64)) (fun _ hk => hk.1)⟩, ⟨by refine ZS ?_; refine blk_far ?_ NB244_252.out _; refine ZS ?_; exact BK244.out⟩, ⟨by refine ZS ?_; refine blk_far ?_ NB245_252.out _; refine ZS ?_; exact BK245.out⟩, ⟨by refine ZS ?_; refine blk_put (cs := #[.int .i64 a0_0, .slice Ao59 y257.length co59, u253002]) ?_ 2 _ rfl; refine ZS ?_; exact BK252.out⟩, ⟨ZB⟩⟩
              ·rw [if_neg c54] at H
               exact absurd H (by simp)
             ·rw [if_neg c53] at H
              exact absurd H (by simp)
            ·rw [if_neg c52] at H
             exact absurd H (by simp)
           ·rw [if_neg c51] at H
            have c51b0 : (x11_1 == 0) = false := beq_eq_false_iff_ne.mpr c51
            have c51b1 : (x11_1 != 0) = true := bne_iff_ne.mpr c51
            by_cases c69 : x253002_1.length < 17592186044416
            ·rw [if_pos c69] at H
             have LMc69 := Aside0.mk c69
             clear c69
             obtain ⟨y266, hy266⟩ : ∃ y_ : List Int, y_ = (x253002_1 ++ [Int.tmod (wrap64 (x9_1 * x10_1)) a0_0]) := ⟨_, rfl⟩
             replace H : (if (ji45) < (l0_1.length : Int) then ((spec_l01Mod.f a0_0 (wrap64 ((wrap64 ((rd l0_1 (ji45)) - a1)) - (Int.tmod (wrap64 ((rd l0_2 (ji45)) * t256)) a0_0)))).bind fun t270 => (spec_l08Step.l0 k1 a1 a0_0 (l0_1.length : Int) t270 (Int.tmod (wrap64 ((rd l0_2 (ji45)) * t256)) a0_0) ji45 a0_0 l0_1 l0_2 a0_0 y257 y266)) else (none)) = some (r1, r2, r3, r4) := by first | (rw [hy266]; with_reducible exact H) | (have H2_ := (Option.bind_some _ _).symm.trans H; rw [hy266]; with_reducible exact H2_) | (have H2_ := (Option.bind_some _ _).symm.trans H; with_reducible exact H2_) | with_reducible exact H | (rw [hy266]; exact H) | exact H
             have Ny266 := Aside0.mk hy266
             clear hy266
             by_cases c70 : (ji45) < (l0_1.length : Int)
             ·rw [if_pos c70] at H
              have c70b0 : decide ((ji45) < (l0_1.length : Int)) = true := decide_eq_true c70
              clear c70
              replace H := Option.bind_eq_some_iff.mp H
              obtain ⟨t270, A710, H⟩ := H
              replace H : (spec_l08Step.l0 k1 a1 a0_0 (l0_1.length : Int) t270 (Int.tmod (wrap64 ((rd l0_2 (ji45)) * t256)) a0_0) ji45 a0_0 l0_1 l0_2 a0_0 y257 y266) = some (r1, r2, r3, r4) := H
              have A71 := Aside0.mk A710
              clear A710
              have H' := Aside0.mk H
              clear H
              try go_wp2
              have n0_ := Aside0.mk (Kd.R_drew HO_253001.out)
              have n1_ := Aside0.mk (Kd.R_drew HO_253002.out)
              have n2_ := Aside0.mk (blk_drew BK244.out)
              have n3_ := Aside0.mk (blk_drew BK245.out)
              have n4_ := Aside0.mk (blk_drew BK252.out)
              have n5_ := Aside0.mk (below_drew1 HB.out)
              clear HO_253001
              clear HO_253002
              clear BK244
              clear BK245
              clear BK252
              clear HB
              have HO_253001 := n0_
              have HO_253002 := n1_
              have BK244 := n2_
              have BK245 := n3_
              have BK252 := n4_
              have HB := n5_
              clear n0_ n1_ n2_ n3_ n4_ n5_
              have p255 : 0 ≤ ((ji45) : Int) := of_decide_eq_true (by first | (with_reducible assumption) | assumption)
              have q255 : (ji45) < (l0_2.length : Int) := of_decide_eq_true (by first | (with_reducible assumption) | assumption)
              obtain ⟨ad255, e255, hx255_0⟩ := Kd.at_int HR0_2.out (ji45) p255 q255
              have hw255_0 := hx255_0
              cases e255
              replace hx255_0 := (HB.out.cell (World.block_lt_of_cell? w _ hx255_0)).trans hx255_0
              replace p255 := eq_true p255
              replace q255 := eq_true q255
              refine start_ (n := 13) (S := fun w' => w'.cell? ⟨gb244, 0, none⟩ = some (.int .i64 a0_0) ∧ w'.cell? ⟨gb244, 1, none⟩ = some (.slice (some ad253) l0_1.length c0_1) ∧ w'.cell? ⟨gb244, 2, none⟩ = some (.slice (some ad255) l0_2.length c0_2) ∧ w'.cell? (ad255.add ((ji45)).toNat) = some (.int .i64 (rd l0_2 (ji45)))) (ds := []) #[false, false, false, false, false, false, false, false, false, false, false, false, false] (by kernel_rfl) rfl rfl ⟨(blk_cell BK244.out 0).trans rfl, (blk_cell BK244.out 1).trans rfl, (blk_cell BK244.out 2).trans rfl, ((HB.out.cell (World.block_lt_of_cell? w _ hw255_0)).trans hw255_0)⟩ (fun hHeld => ?_); refine with_tabW spec_l08Step.tab11 spec_l08Step.bits11 (fun HT_ HW_ => ?_)
              generalize wr.drew = w72 at HO_253001 HO_253002 BK244 BK245 BK252 HB hx255_0 hHeld ⊢
              refine Zpt 0 (some 42) (h := ?_)
              refine Zpt 2 (some 44) (h := ?_)
              refine Zpt 3 (some 45) (h := ?_)
              refine Zpt 6 (some 48) (h := ?_)
              refine Zpt 7 (some 49) (h := ?_)
              refine Zpt 10 (some 52) (h := ?_)
              refine ZtW4 1 (some 43) hHeld (h := ?_)
              refine Zpt 4 (some 46) (h := ?_)
              refine ZtW4 5 (some 47) hHeld (h := ?_)
              refine one_ (i := 8) (N := some 50) #[true, true, true, true, true, true, true, true, true, false, true, false, false] rfl rfl (one_of HT_.out (by kernel_rfl)) (by decide) (fun K hK => ?_)
              refine goes_ Try.func100 (by kernel_rfl) rfl #[.int .i64 a0_0, .int .i64 x9_1] (by rfl) rfl rfl ZA ?_
              with_reducible refine (spec_l01Inverse.calls k1 a0_0 x9_1 t256 _ A48.out).mono ?_
              rintro e w' ⟨rfl, ⟨nd, rfl⟩⟩
              refine ⟨_, rfl, ?_⟩
              refine hK.out _ _ ⟨(blk_cell BK244.out 0).trans rfl, (blk_cell BK244.out 1).trans rfl, (blk_cell BK244.out 2).trans rfl, ((HB.out.cell (World.block_lt_of_cell? w _ hw255_0)).trans hw255_0)⟩ (fun hHeld => ?_)
              clear hK K
              refine norm_ (a' := ?_) ?_ ?_
              rotate_left
              ·show Act.put _ (some 50) _ = _
               simp only [Act.put, List.setIfInBounds_toArray, List.set_cons_zero, List.set_cons_succ, i64_w, i32_w]
               rfl
              refine Zpt 9 (some 51) (h := ?_)
              refine Zpt 11 (some 53) (h := ?_)
              refine Zpt 12 (some 12) (h := ?_)
              refine done_ (done_of HT_.out (by kernel_rfl)) ?_
              try go_wp2
              (try (rw [drewN_self w72]; generalize hq_ : World.drewN w72 _ = w72; have n0_ : Aside0 (Kd.R (Kd.int .i64) 2 w72 w.heap.size (fun k_ => some k_ ≠ (u253002 : Value).ownBlock) u253001 x253001_1) := ⟨by rw [← hq_]; exact (ZR HO_253001)⟩; have n1_ : Aside0 (Kd.R (Kd.int .i64) 2 w72 w.heap.size (fun k_ => some k_ ≠ (u253001 : Value).ownBlock) u253002 x253002_1) := ⟨by rw [← hq_]; exact (ZR HO_253002)⟩; have n2_ : Aside0 (w72.heap[gb244]? = some (.cells #[.int .i64 a0_0, .slice (some ad253) l0_1.length c0_1, .slice (some ad255) l0_2.length c0_2] 29 (0, 0))) := ⟨by rw [← hq_]; exact (ZK BK244)⟩; have n3_ : Aside0 (w72.heap[gb245]? = some (.cells #[.int .i64 x246000_1, .slice none 0 0, .slice none 0 0] 29 (0, 0))) := ⟨by rw [← hq_]; exact (ZK BK245)⟩; have n4_ : Aside0 (w72.heap[gb252]? = some (.cells #[.int .i64 a0_0, u253001, u253002] 29 (0, 0))) := ⟨by rw [← hq_]; exact (ZK BK252)⟩; have n5_ : Aside0 (Below w.heap.size w w72) := ⟨by rw [← hq_]; exact ZB⟩; clear HO_253001 HO_253002 BK244 BK245 BK252 HB hq_; have HO_253001 := n0_; have HO_253002 := n1_; have BK244 := n2_; have BK245 := n3_; have BK252 := n4_; have HB := n5_; clear n0_ n1_ n2_ n3_ n4_ n5_))
              (try (obtain ⟨hcy244_0, hcy244_1, hcy244_2, hfy244_0, hfy244_1, hfy244_2⟩ := ZD3 BK244))
              (try (obtain ⟨hcy245_0, hcy245_1, hcy245_2, hfy245_0, hfy245_1, hfy245_2⟩ := ZD3 BK245))
              (try (obtain ⟨hcy252_0, hcy252_1, hcy252_2, hfy252_0, hfy252_1, hfy252_2⟩ := ZD3 BK252))
              have n0_ := Aside0.mk (Kd.R_drew HO_253001.out)
              have n1_ := Aside0.mk (Kd.R_drew HO_253002.out)
              have n2_ := Aside0.mk (blk_drew BK244.out)
              have n3_ := Aside0.mk (blk_drew BK245.out)
              have n4_ := Aside0.mk (blk_drew BK252.out)
              have n5_ := Aside0.mk (below_drew1 HB.out)
              clear HO_253001
              clear HO_253002
              clear BK244
              clear BK245
              clear BK252
              clear HB
              have HO_253001 := n0_
              have HO_253002 := n1_
              have BK244 := n2_
              have BK245 := n3_
              have BK252 := n4_
              have HB := n5_
              clear n0_ n1_ n2_ n3_ n4_ n5_
              refine start_ (n := 13) (S := fun w' => w'.cell? ⟨gb252, 0, none⟩ = some (.int .i64 a0_0) ∧ w'.cell? ⟨gb252, 1, none⟩ = some (u253001) ∧ w'.cell? ⟨gb252, 2, none⟩ = some (u253002)) (ds := [12]) #[false, false, false, false, false, false, false, false, false, false, false, false, false] (by kernel_rfl) rfl rfl ⟨(blk_cell BK252.out 0).trans rfl, (blk_cell BK252.out 1).trans rfl, (blk_cell BK252.out 2).trans rfl⟩ (fun hHeld => ?_); refine with_tabW spec_l08Step.tab12 spec_l08Step.bits12 (fun HT_ HW_ => ?_)
              generalize w72.drew = w73 at HO_253001 HO_253002 BK244 BK245 BK252 HB hHeld ⊢
              refine Zpt 0 (some 54) (h := ?_)
              refine Zpt 2 (some 56) (h := ?_)
              refine Zpt 3 (some 57) (h := ?_)
              refine Zpt 4 (some 58) (h := ?_)
              refine Zpt 5 (some 59) (h := ?_)
              refine Zpt 6 (some 60) (h := ?_)
              refine Zpt 7 (some 61) (h := ?_)
              refine Zpt 8 (some 62) (h := ?_)
              refine ZtW3 1 (some 55) hHeld (h := ?_)
              refine one_ (i := 9) (N := some 63) #[true, true, true, true, true, true, true, true, true, true, false, false, false] rfl rfl (one_of HT_.out (by kernel_rfl)) (by decide) (fun K hK => ?_)
              refine value_ (w1 := ?_) (v := ?_) (by rfl) rfl ?_ ?_
              rotate_left 2
              ·go_simp
               constructor
               ·rfl
               ·rfl
              refine hK.out _ _ ⟨(blk_cell (blk_alloc BK252.out _) 0).trans rfl, (blk_cell (blk_alloc BK252.out _) 1).trans rfl, (blk_cell (blk_alloc BK252.out _) 2).trans rfl⟩ (fun hHeld => ?_)
              clear hK K
              refine norm_ (a' := ?_) ?_ ?_
              rotate_left
              ·show Act.put _ (some 63) _ = _
               simp only [Act.put, List.setIfInBounds_toArray, List.set_cons_zero, List.set_cons_succ, i64_w, i32_w]
               rfl
              refine one_ (i := 10) (N := some 64) #[true, true, true, true, true, true, true, true, true, true, true, false, false] rfl rfl (one_of HT_.out (by kernel_rfl)) (by decide) (fun K hK => ?_)
              refine Kd.R_append_step (Kd.int .i64) (w0 := w) w.heap.size (by rfl) (.tmp 55) (.tmp 63) 22 2 (.int .i64 0) 8 rfl Try.underlying22 info2 rfl (by decide) (by omega) u253001 x253001_1 (Int.tmod (wrap64 ((wrap64 (x9_1 + (Int.tmod (wrap64 ((rd l0_2 (ji45)) * t256)) a0_0))) + a1)) a0_0) [.int .i64 (Int.tmod (wrap64 ((wrap64 (x9_1 + (Int.tmod (wrap64 ((rd l0_2 (ji45)) * t256)) a0_0))) + a1)) a0_0)] (fun k_ => some k_ ≠ (u253002 : Value).ownBlock) (fun _ => False) rfl rfl ?aP (fun _ hk => hk.elim) ?aF ?aO ?aB ?aS ?aL ?_
              (case aP => exact rfl)
              (case aB => exact ZB)
              (case aF => exact (fun k_ hk => Kd.fresh' (Kd.R_lt (ZR HO_253002)) k_ hk))
              (case aO => exact (ZR HO_253001))
              (case aS => exact (below_size ZB))
              (case aL => have := LMc50.out; omega)
              intro v258 w74 ho hb hg hat
              rw [← Ny257.out] at ho
              have n0_ := Aside0.mk (Kd.R_after (ok := (fun _ => True)) (by refine ZQ ?_; exact Kd.R_mono HO_253002.out (fun _ hk => (And.intro (trivial) (hk)))) hg hat)
              have n1_ := Aside0.mk (blk_grown (ZK BK244) hg (Kd.R_ne HO_253001.out BK244.out (by decide)))
              have n2_ := Aside0.mk (blk_grown (ZK BK245) hg (Kd.R_ne HO_253001.out BK245.out (by decide)))
              have n3_ := Aside0.mk (blk_grown (ZK BK252) hg (Kd.R_ne HO_253001.out BK252.out (by decide)))
              have n4_ := Aside0.mk (hb)
              have n5_ := Aside0.mk (ho)
              clear HO_253002
              clear BK244
              clear BK245
              clear BK252
              clear HB
              clear HO_253001
              have HO_253002 := n0_
              have BK244 := n1_
              have BK245 := n2_
              have BK252 := n3_
              have HB := n4_
              have HO259 := n5_
              clear n0_ n1_ n2_ n3_ n4_ n5_
              clear ho hb hg hat
              obtain ⟨Ao75, co75, eo75⟩ := Kd.R_slice HO259.out
              (first | subst eo75 | (injection eo75 with f1_ f2_ f3_; have f4_ := f1_.symm; have f5_ := f3_.symm; clear f1_ f2_ f3_; subst f4_; subst f5_))
              refine hK.out _ _ ⟨(blk_cell BK252.out 0).trans rfl, (blk_cell BK252.out 1).trans rfl, (blk_cell BK252.out 2).trans rfl⟩ (fun hHeld => ?_)
              clear hK K
              refine norm_ (a' := ?_) ?_ ?_
              rotate_left
              ·show Act.put _ (some 64) _ = _
               simp only [Act.put, List.setIfInBounds_toArray, List.set_cons_zero, List.set_cons_succ, i64_w, i32_w]
               rfl
              refine Zpt 11 (some 65) (h := ?_)
              refine last_ (i := 12) (N := none) #[true, true, true, true, true, true, true, true, true, true, true, true, true] rfl rfl (one_of HT_.out (by kernel_rfl)) (by decide) (fun K hK => ?_)
              have hs76 : w74.cell? ⟨gb252, 1, none⟩ = some (u253001) := (blk_cell BK252.out 1).trans rfl
              have hfs76 := blk_frozen BK252.out 1
              have hns76_0 := NB244_252.out
              have hns76_1 := NB245_252.out
              have hms76_0 := NB252_244.out
              have hms76_1 := NB252_245.out
              refine skip_ (w1 := ?_) (by rfl) rfl ?_ ?_
              rotate_left
              ·go_simp
               rfl
              refine hK.out _ _ ?_
              clear hK K
              refine done_ (done_of HT_.out (by kernel_rfl)) ?_
              try go_wp2
              have n0_ : Aside0 (Kd.R (Kd.int .i64) 2 (w74.setCell ⟨gb252, 1, none⟩ (.slice Ao75 y257.length co75)) w.heap.size (fun k_ => some k_ ≠ (.slice Ao75 y257.length co75 : Value).ownBlock) u253002 x253002_1) := ⟨by refine ZQ ?_; exact Kd.R_mono (Kd.R_far (p := ⟨gb252, 1, none⟩) (Kd.R_types HO_253002.out BK252.out (by decide)) (fun _ hk => hk.2) (.slice Ao75 y257.length co75)) (fun _ hk => hk.1.2)⟩
              have n1_ : Aside0 (Kd.R (Kd.int .i64) 2 (w74.setCell ⟨gb252, 1, none⟩ (.slice Ao75 y257.length co75)) w.heap.size (fun k_ => some k_ ≠ (u253002 : Value).ownBlock) (.slice Ao75 y257.length co75) y257) := ⟨by refine ZQ ?_; exact Kd.R_mono (Kd.R_far (p := ⟨gb252, 1, none⟩) (Kd.R_types HO259.out BK252.out (by decide)) (fun _ hk => hk.2) (.slice Ao75 y257.length co75)) (fun _ hk => hk.1)⟩
              have n2_ : Aside0 ((w74.setCell ⟨gb252, 1, none⟩ (.slice Ao75 y257.length co75)).heap[gb244]? = some (.cells #[.int .i64 a0_0, .slice (some ad253) l0_1.length c0_1, .slice (some ad255) l0_2.length c0_2] 29 (0, 0))) := ⟨by refine ZS ?_; refine blk_far ?_ NB244_252.out _; refine ZS ?_; exact BK244.out⟩
              have n3_ : Aside0 ((w74.setCell ⟨gb252, 1, none⟩ (.slice Ao75 y257.length co75)).heap[gb245]? = some (.cells #[.int .i64 x246000_1, .slice none 0 0, .slice none 0 0] 29 (0, 0))) := ⟨by refine ZS ?_; refine blk_far ?_ NB245_252.out _; refine ZS ?_; exact BK245.out⟩
              have n4_ : Aside0 ((w74.setCell ⟨gb252, 1, none⟩ (.slice Ao75 y257.length co75)).heap[gb252]? = some (.cells #[.int .i64 a0_0, .slice Ao75 y257.length co75, u253002] 29 (0, 0))) := ⟨by refine ZS ?_; refine blk_put (cs := #[.int .i64 a0_0, u253001, u253002]) ?_ 1 _ rfl; refine ZS ?_; exact BK252.out⟩
              have n5_ : Aside0 (Below w.heap.size w (w74.setCell ⟨gb252, 1, none⟩ (.slice Ao75 y257.length co75))) := ⟨ZB⟩
              (try clear HO_253002)
              (try clear HO259)
              (try clear BK244)
              (try clear BK245)
              (try clear BK252)
              (try clear HB)
              generalize (w74.setCell ⟨gb252, 1, none⟩ (.slice Ao75 y257.length co75)) = w77 at n0_ n1_ n2_ n3_ n4_ n5_ ⊢
              have HO_253002 := n0_
              have HO259 := n1_
              have BK244 := n2_
              have BK245 := n3_
              have BK252 := n4_
              have HB := n5_
              clear n0_ n1_ n2_ n3_ n4_ n5_
              have n0_ := Aside0.mk (Kd.R_drew HO_253002.out)
              have n1_ := Aside0.mk (Kd.R_drew HO259.out)
              have n2_ := Aside0.mk (blk_drew BK244.out)
              have n3_ := Aside0.mk (blk_drew BK245.out)
              have n4_ := Aside0.mk (blk_drew BK252.out)
              have n5_ := Aside0.mk (below_drew1 HB.out)
              clear HO_253002
              clear HO259
              clear BK244
              clear BK245
              clear BK252
              clear HB
              have HO_253002 := n0_
              have HO259 := n1_
              have BK244 := n2_
              have BK245 := n3_
              have BK252 := n4_
              have HB := n5_
              clear n0_ n1_ n2_ n3_ n4_ n5_
              refine start_ (n := 11) (S := fun w' => w'.cell? ⟨gb252, 0, none⟩ = some (.int .i64 a0_0) ∧ w'.cell? ⟨gb252, 1, none⟩ = some (.slice Ao75 y257.length co75) ∧ w'.cell? ⟨gb252, 2, none⟩ = some (u253002)) (ds := [10]) #[false, false, false, false, false, false, false, false, false, false, false] (by kernel_rfl) rfl rfl ⟨(blk_cell BK252.out 0).trans rfl, (blk_cell BK252.out 1).trans rfl, (blk_cell BK252.out 2).trans rfl⟩ (fun hHeld => ?_); refine with_tabW spec_l08Step.tab15 spec_l08Step.bits15 (fun HT_ HW_ => ?_)
              generalize w77.drew = w78 at HO_253002 HO259 BK244 BK245 BK252 HB hHeld ⊢
              refine Zpt 0 (some 81) (h := ?_)
              refine Zpt 2 (some 83) (h := ?_)
              refine Zpt 3 (some 84) (h := ?_)
              refine Zpt 4 (some 85) (h := ?_)
              refine Zpt 5 (some 86) (h := ?_)
              refine Zpt 6 (some 87) (h := ?_)
              refine ZtW3 1 (some 82) hHeld (h := ?_)
              refine one_ (i := 7) (N := some 88) #[true, true, true, true, true, true, true, true, false, false, false] rfl rfl (one_of HT_.out (by kernel_rfl)) (by decide) (fun K hK => ?_)
              refine value_ (w1 := ?_) (v := ?_) (by rfl) rfl ?_ ?_
              rotate_left 2
              ·go_simp
               constructor
               ·rfl
               ·rfl
              refine hK.out _ _ ⟨(blk_cell (blk_alloc BK252.out _) 0).trans rfl, (blk_cell (blk_alloc BK252.out _) 1).trans rfl, (blk_cell (blk_alloc BK252.out _) 2).trans rfl⟩ (fun hHeld => ?_)
              clear hK K
              refine norm_ (a' := ?_) ?_ ?_
              rotate_left
              ·show Act.put _ (some 88) _ = _
               simp only [Act.put, List.setIfInBounds_toArray, List.set_cons_zero, List.set_cons_succ, i64_w, i32_w]
               rfl
              refine one_ (i := 8) (N := some 89) #[true, true, true, true, true, true, true, true, true, false, false] rfl rfl (one_of HT_.out (by kernel_rfl)) (by decide) (fun K hK => ?_)
              refine Kd.R_append_step (Kd.int .i64) (w0 := w) w.heap.size (by rfl) (.tmp 82) (.tmp 88) 22 2 (.int .i64 0) 8 rfl Try.underlying22 info2 rfl (by decide) (by omega) u253002 x253002_1 (Int.tmod (wrap64 (x9_1 * x10_1)) a0_0) [.int .i64 (Int.tmod (wrap64 (x9_1 * x10_1)) a0_0)] (fun k_ => some k_ ≠ (.slice Ao75 y257.length co75 : Value).ownBlock) (fun _ => False) rfl rfl ?aP (fun _ hk => hk.elim) ?aF ?aO ?aB ?aS ?aL ?_
              (case aP => exact rfl)
              (case aB => exact ZB)
              (case aF => exact (fun k_ hk => Kd.fresh' (Kd.R_lt (ZR HO259)) k_ hk))
              (case aO => exact (ZR HO_253002))
              (case aS => exact (below_size ZB))
              (case aL => have := LMc69.out; omega)
              intro v267 w79 ho hb hg hat
              rw [← Ny266.out] at ho
              have n0_ := Aside0.mk (blk_grown (ZK BK244) hg (Kd.R_ne HO_253002.out BK244.out (by decide)))
              have n1_ := Aside0.mk (blk_grown (ZK BK245) hg (Kd.R_ne HO_253002.out BK245.out (by decide)))
              have n2_ := Aside0.mk (blk_grown (ZK BK252) hg (Kd.R_ne HO_253002.out BK252.out (by decide)))
              have n3_ := Aside0.mk (Kd.R_after (ok := (fun _ => True)) (by refine ZQ ?_; exact Kd.R_mono HO259.out (fun _ hk => (And.intro (trivial) (hk)))) hg hat)
              have n4_ := Aside0.mk (hb)
              have n5_ := Aside0.mk (ho)
              clear BK244
              clear BK245
              clear BK252
              clear HO259
              clear HB
              clear HO_253002
              have BK244 := n0_
              have BK245 := n1_
              have BK252 := n2_
              have HO259 := n3_
              have HB := n4_
              have HO268 := n5_
              clear n0_ n1_ n2_ n3_ n4_ n5_
              clear ho hb hg hat
              obtain ⟨Ao80, co80, eo80⟩ := Kd.R_slice HO268.out
              (first | subst eo80 | (injection eo80 with f1_ f2_ f3_; have f4_ := f1_.symm; have f5_ := f3_.symm; clear f1_ f2_ f3_; subst f4_; subst f5_))
              refine hK.out _ _ ⟨(blk_cell BK252.out 0).trans rfl, (blk_cell BK252.out 1).trans rfl, (blk_cell BK252.out 2).trans rfl⟩ (fun hHeld => ?_)
              clear hK K
              refine norm_ (a' := ?_) ?_ ?_
              rotate_left
              ·show Act.put _ (some 89) _ = _
               simp only [Act.put, List.setIfInBounds_toArray, List.set_cons_zero, List.set_cons_succ, i64_w, i32_w]
               rfl
              refine Zpt 9 (some 90) (h := ?_)
              refine last_ (i := 10) (N := none) #[true, true, true, true, true, true, true, true, true, true, true] rfl rfl (one_of HT_.out (by kernel_rfl)) (by decide) (fun K hK => ?_)
              have hs81 : w79.cell? ⟨gb252, 2, none⟩ = some (u253002) := (blk_cell BK252.out 2).trans rfl
              have hfs81 := blk_frozen BK252.out 2
              have hns81_0 := NB244_252.out
              have hns81_1 := NB245_252.out
              have hms81_0 := NB252_244.out
              have hms81_1 := NB252_245.out
              refine skip_ (w1 := ?_) (by rfl) rfl ?_ ?_
              rotate_left
              ·go_simp
               rfl
              refine hK.out _ _ ?_
              clear hK K
              refine done_ (done_of HT_.out (by kernel_rfl)) ?_
              have hnb82 := NB244_245.out
              have hnc82 := NB245_244.out
              have hnb83 := NB244_252.out
              have hnc83 := NB252_244.out
              obtain ⟨hcz84_0, hcz84_1, hcz84_2, hfz84_0, hfz84_1, hfz84_2⟩ := ZD3 BK244
              have p269 : 0 ≤ ((ji45) : Int) := of_decide_eq_true (by first | (with_reducible assumption) | assumption)
              have q269 : (ji45) < (l0_1.length : Int) := of_decide_eq_true (by first | (with_reducible assumption) | assumption)
              obtain ⟨ad269, e269, hx269_0⟩ := Kd.at_int HR0_1.out (ji45) p269 q269
              obtain rfl : ad253 = ad269 := (by injection e269)
              have hn269_0 : ad253.block ≠ gb252 := Nat.ne_of_lt (Nat.lt_of_lt_of_le (by have := World.block_lt_of_cell? _ _ hx269_0; first | rwa [add_block] at this | exact this) GW252.out)
              replace hx269_0 := (HB.out.cell (World.block_lt_of_cell? w _ hx269_0)).trans hx269_0
              replace hx269_0 := (cell_far (p := ⟨gb252, 2, none⟩) (by first | (rw [add_block]; exact hn269_0) | (show (Addr.add _ _).block ≠ _; rw [add_block]; exact hn269_0) | exact hn269_0) (.slice Ao80 y266.length co80)).trans hx269_0
              clear hn269_0
              replace p269 := eq_true p269
              replace q269 := eq_true q269
              try go_wp2_with (first | ((with_reducible refine gate_callee (f := 99) rfl ?_); refine goesL_ (some 103) rfl rfl Try.func99 (by kernel_rfl) rfl #[.int .i64 a0_0, .int .i64 (wrap64 ((wrap64 ((rd l0_1 (ji45)) - a1)) - (Int.tmod (wrap64 ((rd l0_2 (ji45)) * t256)) a0_0)))] rfl (by (try simp only [List.map_toArray, List.map_cons, List.map_nil]); first | done | (simp only [hji45]; rfl) | rfl | (simp only [List.length_drop, List.length_take]; rfl)) ?_; (with_reducible refine (spec_l01Mod.calls a0_0 (wrap64 ((wrap64 ((rd l0_1 (ji45)) - a1)) - (Int.tmod (wrap64 ((rd l0_2 (ji45)) * t256)) a0_0))) t270 _ A71.out).mono ?_); rintro e w' ⟨rfl, ⟨nd, rfl⟩⟩; refine ⟨_, rfl, ?_⟩))
              go_roundg k1
              case measure => have := HK1.out; omega
              case rel => exact ⟨(t270), (Int.tmod (wrap64 ((rd l0_2 (ji45)) * t256)) a0_0), (ji45), (x246000_1), (y257), (y266), (.slice Ao75 y257.length co75), (.slice Ao80 y266.length co80), (by first | rfl | (simp; done) | (simp [*]; done)), (by first | rfl | (simp; done) | (simp only [← hji45] <;> (first | rfl | simp)) | (simp [*]; done)), (by first | rfl | (simp; done) | (simp only [← hji45] <;> (first | rfl | simp)) | (simp [*]; done)), H', ⟨by have := HK1.out; omega⟩, ⟨by refine ZQ ?_; exact Kd.R_mono (Kd.R_far (p := ⟨gb252, 2, none⟩) (Kd.R_types HO259.out BK252.out (by decide)) (fun _ hk => hk.2) (.slice Ao80 y266.length co80)) (fun _ hk => hk.1.2)⟩, ⟨by refine ZQ ?_; exact Kd.R_mono (Kd.R_far (p := ⟨gb252, 2, none⟩) (Kd.R_types HO268.out BK252.out (by decide)) (fun _ hk => hk.2) (.slice Ao80 y266.length co80)) (fun _ hk => hk.1)⟩, ⟨by refine ZS ?_; refine blk_far ?_ NB244_252.out _; refine ZS ?_; exact BK244.out⟩, ⟨by refine ZS ?_; refine blk_far ?_ NB245_252.out _; refine ZS ?_; exact BK245.out⟩, ⟨by refine ZS ?_; refine blk_put (cs := #[.int .i64 a0_0, .slice Ao75 y257.length co75, u253002]) ?_ 2 _ rfl; refine ZS ?_; exact BK252.out⟩, ⟨ZB⟩⟩
             ·rw [if_neg c70] at H
              exact absurd H (by simp)
            ·rw [if_neg c69] at H
             exact absurd H (by simp)
          ·rw [if_neg c50] at H
           exact absurd H (by simp)
        ·rw [if_neg c47] at H
         exact absurd H (by simp)
       ·rw [if_neg c46] at H
        exact absurd H (by simp)
     ·rw [if_neg c36] at H
      have c36b0 : decide ((wrap64 (x11_1 + 1)) < (l0_1.length : Int)) = false := decide_eq_false c36
      clear c36
      simp only [Option.some.injEq, Prod.mk.injEq] at H
      obtain ⟨rfl, rfl, rfl, rfl⟩ := H
      have hnb85 := NB252_244.out
      have hnc85 := NB244_252.out
      have hnb86 := NB252_245.out
      have hnc86 := NB245_252.out
      obtain ⟨hcz87_0, hcz87_1, hcz87_2, hfz87_0, hfz87_1, hfz87_2⟩ := ZD3 BK252
      have hnb88 := NB245_244.out
      have hnc88 := NB244_245.out
      obtain ⟨hcz89_0, hcz89_1, hcz89_2, hfz89_0, hfz89_1, hfz89_2⟩ := ZD3 BK245
      obtain ⟨Ao90, co90, eo90⟩ := Kd.R_slice HO_253001.out
      subst eo90
      obtain ⟨Ao91, co91, eo91⟩ := Kd.R_slice HO_253002.out
      subst eo91
      go_wp2
      refine bodyPost_ret (results_ct rfl _ _ gb245 29 #[.int .i64 a0_0, .slice Ao90 x253001_1.length co90, .slice Ao91 x253002_1.length co91] (0, 0) _ rfl (by refine ZS ?_; refine blk_put (cs := #[.int .i64 a0_0, .slice Ao90 x253001_1.length co90, .slice none 0 0]) ?_ 2 _ rfl; refine ZS ?_; refine blk_put (cs := #[.int .i64 a0_0, .slice none 0 0, .slice none 0 0]) ?_ 1 _ rfl; refine ZS ?_; refine blk_put (cs := #[.int .i64 x246000_1, .slice none 0 0, .slice none 0 0]) ?_ 0 _ rfl; refine ZS ?_; exact BK245.out) Try.underlying29 rfl (by kernel_rfl)) rfl ?_
      exact ⟨_, _, by first | rfl | (simp [errW_none, errW_some] <;> rfl) | (simp [*, errW_none, errW_some] <;> rfl), by refine ZQ ?_; exact Kd.R_mono (Kd.R_far (p := ⟨gb245, 2, none⟩) (Kd.R_far (p := ⟨gb245, 1, none⟩) (Kd.R_far (p := ⟨gb245, 0, none⟩) (Kd.R_types HO_253001.out BK245.out (by decide)) (fun _ hk => hk.2) (.int .i64 a0_0)) (fun _ hk => hk.2) (.slice Ao90 x253001_1.length co90)) (fun _ hk => hk.2) (.slice Ao91 x253002_1.length co91)) (fun _ hk => hk.1), by refine ZQ ?_; exact Kd.R_mono (Kd.R_far (p := ⟨gb245, 2, none⟩) (Kd.R_far (p := ⟨gb245, 1, none⟩) (Kd.R_far (p := ⟨gb245, 0, none⟩) (Kd.R_types HO_253002.out BK245.out (by decide)) (fun _ hk => hk.2) (.int .i64 a0_0)) (fun _ hk => hk.2) (.slice Ao90 x253001_1.length co90)) (fun _ hk => hk.2) (.slice Ao91 x253002_1.length co91)) (fun _ hk => hk.1), ZB⟩
  ·rw [if_neg c19] at H
   exact absurd H (by simp)

end Go.Proofs.Ytaclapojgdekpaa.X
