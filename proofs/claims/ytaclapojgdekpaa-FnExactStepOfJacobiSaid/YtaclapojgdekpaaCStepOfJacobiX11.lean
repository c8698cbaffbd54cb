/- Contracts of functions that the law reaches, printed by a program of this session; Lean checks them. -/
import Derived.Test.YtaclapojgdekpaaCStepOfJacobiX0
import Derived.Test.YtaclapojgdekpaaCStepOfJacobiX10
import Derived.Test.YtaclapojgdekpaaCStepOfJacobiX5
import Derived.Test.YtaclapojgdekpaaCStepOfJacobiX7
import Derived.Test.YtaclapojgdekpaaCStepOfJacobiXZ
namespace Go.Proofs.Ytaclapojgdekpaa.X
open Go.RowKit Go.Proofs.YtaclapojgdekpaaW.PrintWords Go.Proofs.YtaclapojgdekpaaW.PrintLast Go.Proofs.YtaclapojgdekpaaW.PrintMore
attribute [local go_sem] max2_int min2_int max_two min_two max_three min_three max_four min_four   -- for this text's walks alone
set_option linter.unusedVariables false
set_option linter.unusedSimpArgs false

/-! ### impl_Jacobi_step: function 66 -/
def impl_Jacobi_step.l0 : Nat → Int → Int → Int → Int → Int → Int → List Int → List Int → Int → List Int → List Int → Option (Int × List Int × List Int × Bool)
 | 0, _, _, _, _, _, _, _, _, _, _, _ => none
 | k + 1, x1, x6, x9, x24, x25, x295000, x295001, x295002, x299000, x299001, x299002 => if x25 < x24 then (if 0 ≤ x25 then (if x25 < (x295001.length : Int) then ((impl_field_mod.f x6 (wrap64 ((wrap64 ((rd x295001 x25) - x1)) - x9))).bind fun t300 => (if t300 = 0 then (some (0, ([] : List Int), ([] : List Int), false)) else ((impl_field_mul.f x6 t300 x9).bind fun t301 => (if x25 = 0 then (if 0 < (x295002.length : Int) then ((impl_field_mul.f x6 (rd x295002 0) t300).bind fun t303 => (if 0 ≤ (wrap64 (x25 + 1)) then (if (wrap64 (x25 + 1)) < (x295002.length : Int) then ((impl_field_div.f k x6 (rd x295002 (wrap64 (x25 + 1))) t300).bind fun t305 => ((impl_field_mod.f x6 (wrap64 ((wrap64 (t300 + t305)) + x1))).bind fun t306 => ((some (([t306] : List Int) : List Int)).bind fun y307 => (if x299001.length + y307.length < 17592186044416 then ((some (([t303] : List Int) : List Int)).bind fun y313 => (if x299002.length + y313.length < 17592186044416 then (impl_Jacobi_step.l0 k x1 x6 t305 x24 (wrap64 (x25 + 1)) x295000 x295001 x295002 x299000 (x299001 ++ y307) (x299002 ++ y313)) else (none))) else (none))))) else (none)) else (none))) else (none)) else (if 0 ≤ (wrap64 (x25 + 1)) then (if (wrap64 (x25 + 1)) < (x295002.length : Int) then ((impl_field_div.f k x6 (rd x295002 (wrap64 (x25 + 1))) t300).bind fun t320 => ((impl_field_mod.f x6 (wrap64 ((wrap64 (t300 + t320)) + x1))).bind fun t321 => ((some (([t321] : List Int) : List Int)).bind fun y322 => (if x299001.length + y322.length < 17592186044416 then ((some (([t301] : List Int) : List Int)).bind fun y328 => (if x299002.length + y328.length < 17592186044416 then (impl_Jacobi_step.l0 k x1 x6 t320 x24 (wrap64 (x25 + 1)) x295000 x295001 x295002 x299000 (x299001 ++ y322) (x299002 ++ y328)) else (none))) else (none))))) else (none)) else (none)))))) else (none)) else (none)) else (some (x299000, x299001, x299002, true))
def impl_Jacobi_step.f (k : Nat) (a0_0 : Int) (l0_1 : List Int) (l0_2 : List Int) (a1 : Int) : Option (Int × List Int × List Int × Bool) := (impl_Jacobi_field.f a0_0 l0_1 l0_2).bind fun t296 => ((impl_Jacobi_size.f a0_0 l0_1 l0_2).bind fun t297 => (if t297 < 2 then (some (0, ([] : List Int), ([] : List Int), false)) else (impl_Jacobi_step.l0 k a1 t296 0 (wrap64 (t297 - 1)) 0 a0_0 l0_1 l0_2 a0_0 ([] : List Int) ([] : List Int))))
theorem impl_Jacobi_step.mono_l : ∀ k, (∀ y0 y1 y2 y3 y4 y5 y6 y7 y8 y9 y10, LeO (impl_Jacobi_step.l0 k y0 y1 y2 y3 y4 y5 y6 y7 y8 y9 y10) (impl_Jacobi_step.l0 (k + 1) y0 y1 y2 y3 y4 y5 y6 y7 y8 y9 y10))
 | 0 => fun _ _ _ _ _ _ _ _ _ _ _ r h => by simp [impl_Jacobi_step.l0] at h
 | k + 1 => by
  have ih0 := impl_Jacobi_step.mono_l k
  ·intro y0 y1 y2 y3 y4 y5 y6 y7 y8 y9 y10
   unfold impl_Jacobi_step.l0
   repeat' first
   | (with_reducible exact ih0 _ _ _ _ _ _ _ _ _ _ _)
   | (with_reducible exact impl_field_div.mono _ _ _ _)
   | (with_reducible exact LeO.refl _)
   | (with_reducible exact LeO.none _)
   | (with_reducible refine LeO.ite ?_ ?_)
   | (with_reducible refine LeO.bind ?_ (fun _ => ?_))
   | exact ih0 _ _ _ _ _ _ _ _ _ _ _
   | exact impl_field_div.mono _ _ _ _
   | exact LeO.none _
   | refine LeO.ite ?_ ?_
   | refine LeO.bind ?_ (fun _ => ?_)
theorem impl_Jacobi_step.mono : ∀ a0 a1 a2 a3 k, LeO (impl_Jacobi_step.f k a0 a1 a2 a3) (impl_Jacobi_step.f (k + 1) a0 a1 a2 a3) := by
 intro a0 a1 a2 a3 k
 have ih0 := impl_Jacobi_step.mono_l k
 unfold impl_Jacobi_step.f
 repeat' first
   | (with_reducible exact ih0 _ _ _ _ _ _ _ _ _ _ _)
   | (with_reducible exact impl_field_div.mono _ _ _ _)
   | (with_reducible exact LeO.refl _)
   | (with_reducible exact LeO.none _)
   | (with_reducible refine LeO.ite ?_ ?_)
   | (with_reducible refine LeO.bind ?_ (fun _ => ?_))
   | exact ih0 _ _ _ _ _ _ _ _ _ _ _
   | exact impl_field_div.mono _ _ _ _
   | exact LeO.none _
   | refine LeO.ite ?_ ?_
   | refine LeO.bind ?_ (fun _ => ?_)
def impl_Jacobi_step.T16 : Bool × List (List Nat × List Nat) := (true, [([], []), ([0], [0]), ([], []), ([], []), ([], []), ([3, 4], [3, 4]), ([], []), ([5, 6], [5, 6]), ([2, 7], [2, 7]), ([8], [8]), ([1, 9, 8], [1, 9]), ([], []), ([11], [11]), ([], []), ([13], [13]), ([12, 14, 10], [12, 14]), ([0, 1, 2, 3, 4, 5, 6, 7, 8, 9, 10, 11, 12], []), ([16, 10, 15, 0, 1, 2, 3, 4, 5, 6, 7, 8, 9, 10, 11, 12], [10, 16]), ([0, 1, 2, 3, 4, 5, 6, 7, 8, 9, 10, 11, 12, 13, 14, 15, 16, 17], []), ([18, 15, 17, 0, 1, 2, 3, 4, 5, 6, 7, 8, 9, 10, 11, 12, 13, 14, 15, 16, 17], [15, 18])])
def impl_Jacobi_step.B16 : List Nat := [0, 1, 0, 0, 0, 24, 0, 120, 252, 508, 1023, 0, 2048, 0, 8192, 32767, 8191, 131071, 262143, 524287]
theorem impl_Jacobi_step.tab16 : rtab .any (opsOf Try.f66 16) = impl_Jacobi_step.T16 := by kernel_rfl
theorem impl_Jacobi_step.bits16 : waitsOk impl_Jacobi_step.T16.2 impl_Jacobi_step.B16 = true := by kernel_rfl
set_option maxHeartbeats 8000000 in
set_option maxRecDepth 100000 in
theorem impl_Jacobi_step.calls (k : Nat) (a0_0 : Int) (A0_1 : Option Addr) (c0_1 : Nat) (l0_1 : List Int) (A0_2 : Option Addr) (c0_2 : Nat) (l0_2 : List Int) (a1 : Int) (r1 : Int) (r2 : List Int) (r3 : List Int) (r4 : Bool) (w : World) (hr0_1 : Kd.C (Kd.int .i64) w A0_1 l0_1.length l0_1) (hc0_1 : l0_1.length ≤ c0_1) (hr0_2 : Kd.C (Kd.int .i64) w A0_2 l0_2.length l0_2) (hc0_2 : l0_2.length ≤ c0_2) (h : impl_Jacobi_step.f k a0_0 l0_1 l0_2 a1 = some (r1, r2, r3, r4)) :
  Calls Try.prog 66 #[.agg #[.int .i64 a0_0, .slice A0_1 l0_1.length c0_1, .slice A0_2 l0_2.length c0_2], .int .i64 a1] w fun e w' => ∃ v1_ v2_ : Value, e = .returned (.tuple #[.agg #[.int .i64 r1, v1_, v2_], .bool r4]) ∧ Kd.R (Kd.int .i64) 2 w' w.heap.size (fun k_ => some k_ ≠ (v2_ : Value).ownBlock) v1_ r2 ∧ Kd.R (Kd.int .i64) 2 w' w.heap.size (fun k_ => some k_ ≠ (v1_ : Value).ownBlock) v2_ r3 ∧ Below w.heap.size w w' := by
 have hu29 := Try.underlying29
 have HR0_1 := Aside0.mk hr0_1
 have HC0_1 := Aside0.mk hc0_1
 clear hr0_1 hc0_1
 have HR0_2 := Aside0.mk hr0_2
 have HC0_2 := Aside0.mk hc0_2
 clear hr0_2 hc0_2
 have HB := Aside0.mk (Below.refl w.heap.size w)
 have H : ((impl_Jacobi_field.f a0_0 l0_1 l0_2).bind fun t296 => ((impl_Jacobi_size.f a0_0 l0_1 l0_2).bind fun t297 => (if t297 < 2 then (some (0, ([] : List Int), ([] : List Int), false)) else (impl_Jacobi_step.l0 k a1 t296 0 (wrap64 (t297 - 1)) 0 a0_0 l0_1 l0_2 a0_0 ([] : List Int) ([] : List Int))))) = some (r1, r2, r3, r4) := h
 clear h
 replace H := Option.bind_eq_some_iff.mp H
 obtain ⟨t296, A30, H⟩ := H
 replace H : ((impl_Jacobi_size.f a0_0 l0_1 l0_2).bind fun t297 => (if t297 < 2 then (some (0, ([] : List Int), ([] : List Int), false)) else (impl_Jacobi_step.l0 k a1 t296 0 (wrap64 (t297 - 1)) 0 a0_0 l0_1 l0_2 a0_0 ([] : List Int) ([] : List Int)))) = some (r1, r2, r3, r4) := H
 have A3 := Aside0.mk A30
 clear A30
 replace H := Option.bind_eq_some_iff.mp H
 obtain ⟨t297, A40, H⟩ := H
 replace H : (if t297 < 2 then (some (0, ([] : List Int), ([] : List Int), false)) else (impl_Jacobi_step.l0 k a1 t296 0 (wrap64 (t297 - 1)) 0 a0_0 l0_1 l0_2 a0_0 ([] : List Int) ([] : List Int))) = some (r1, r2, r3, r4) := H
 have A4 := Aside0.mk A40
 clear A40
 by_cases c5 : t297 < 2
 ·rw [if_pos c5] at H
  have c5b0 : decide (t297 < 2) = true := decide_eq_true c5
  clear c5
  simp only [Option.some.injEq, Prod.mk.injEq] at H
  obtain ⟨rfl, rfl, rfl, rfl⟩ := H
  go_enter Try.func66, Try.ntmps66
  try go_wp2_with (first | ((with_reducible refine gate_dst (N := 2) rfl ?_); refine box_event ?hg (N := 2) ?hd (cs := #[.int .i64 a0_0, .slice A0_1 l0_1.length c0_1, .slice A0_2 l0_2.length c0_2]) (t := 29) ?hr ?_; (case hd => rfl); (case hg => rfl); (case hr => first | (go_simp; done) | (go_simp; rfl)); intro gb294 hg w6 hbox hb; have n0_ := Aside0.mk (below_step ZB hb); have n1_ := Aside0.mk (hbox); have n2_ := Aside0.mk ((ZG hg : w.heap.size ≤ gb294)); have n3_ := Aside0.mk ((ZG hg : w.heap.size ≤ gb294)); clear HB; have HB := n0_; have BK294 := n1_; have GW294 := n2_; have GE294 := n3_; clear n0_ n1_ n2_ n3_; clear hb hbox hg) | ((with_reducible refine gate_dst (N := 4) rfl ?_); refine box_event ?hg (N := 4) ?hd (cs := #[.int .i64 0, .slice none 0 0, .slice none 0 0]) (t := 29) ?hr ?_; (case hd => rfl); (case hg => rfl); (case hr => first | (go_simp; done) | (go_simp; rfl)); intro gb295 hg w7 hbox hb; have n0_ := ZL BK294 hb; have n1_ := Aside0.mk (below_step ZB hb); have n2_ := Aside0.mk (hbox); have n3_ := Aside0.mk ((ZG hg : w.heap.size ≤ gb295)); have n4_ := Aside0.mk ((ZG hg : w.heap.size ≤ gb295)); have n5_ := Aside0.mk ((ZN hg BK294 : gb294 ≠ gb295)); have n6_ := Aside0.mk ((ZM hg BK294 : gb295 ≠ gb294)); clear BK294; clear HB; have BK294 := n0_; have HB := n1_; have BK295 := n2_; have GW295 := n3_; have GE295 := n4_; have NB294_295 := n5_; have NB295_294 := n6_; clear n0_ n1_ n2_ n3_ n4_ n5_ n6_; clear hb hbox hg))
  have n0_ := Aside0.mk (blk_drew BK294.out)
  have n1_ := Aside0.mk (blk_drew BK295.out)
  have n2_ := Aside0.mk (below_drew1 HB.out)
  clear BK294
  clear BK295
  clear HB
  have BK294 := n0_
  have BK295 := n1_
  have HB := n2_
  clear n0_ n1_ n2_
  refine start_ (n := 6) (S := fun w' => w'.cell? ⟨gb294, 0, none⟩ = some (.int .i64 a0_0) ∧ w'.cell? ⟨gb294, 1, none⟩ = some (.slice A0_1 l0_1.length c0_1) ∧ w'.cell? ⟨gb294, 2, none⟩ = some (.slice A0_2 l0_2.length c0_2)) (ds := []) #[false, false, false, false, false, false] (by kernel_rfl) rfl rfl ⟨(blk_cell BK294.out 0).trans rfl, (blk_cell BK294.out 1).trans rfl, (blk_cell BK294.out 2).trans rfl⟩ (fun hHeld => ?_)
  generalize w7.drew = w8 at BK294 BK295 HB hHeld ⊢
  refine Zt3 0 (some 13) hHeld (h := ?_)
  refine Zt3 2 (some 15) hHeld (h := ?_)
  refine one_ (i := 1) (N := some 14) #[true, true, true, false, false, false] rfl rfl (by kernel_rfl) (by decide) (fun K hK => ?_)
  refine goes_ Try.func64 (by kernel_rfl) rfl #[.agg #[.int .i64 a0_0, .slice A0_1 l0_1.length c0_1, .slice A0_2 l0_2.length c0_2]] (by rfl) rfl rfl ZA ?_
  with_reducible refine (impl_Jacobi_field.calls a0_0 _ _ l0_1 _ _ l0_2 t296 _ ?side1 ?side2 ?side3 ?side4 A3.out).mono ?_
  (case side1 => exact ZC HR0_1)
  (case side2 => exact HC0_1.out)
  (case side3 => exact ZC HR0_2)
  (case side4 => exact HC0_2.out)
  rintro e w9 ⟨rfl, hb⟩
  refine ⟨_, rfl, ?_⟩
  have n0_ := ZL BK294 hb
  have n1_ := ZL BK295 hb
  have n2_ := Aside0.mk (below_step ZB hb)
  clear BK294
  clear BK295
  clear HB
  have BK294 := n0_
  have BK295 := n1_
  have HB := n2_
  clear n0_ n1_ n2_
  (try clear hb)
  (try clear hb2)
  (try clear hk)
  (try clear hi)
  refine hK.out _ _ ⟨(blk_cell BK294.out 0).trans rfl, (blk_cell BK294.out 1).trans rfl, (blk_cell BK294.out 2).trans rfl⟩ (fun hHeld => ?_)
  clear hK K
  refine norm_ (a' := ?_) ?_ ?_
  rotate_left
  ·show Act.put _ (some 14) _ = _
   simp only [Act.put, List.setIfInBounds_toArray, List.set_cons_zero, List.set_cons_succ, i64_w, i32_w]
   rfl
  refine one_ (i := 3) (N := some 16) #[true, true, true, true, false, false] rfl rfl (by kernel_rfl) (by decide) (fun K hK => ?_)
  refine goes_ Try.func59 (by kernel_rfl) rfl #[.agg #[.int .i64 a0_0, .slice A0_1 l0_1.length c0_1, .slice A0_2 l0_2.length c0_2]] (by rfl) rfl rfl ZA ?_
  with_reducible refine (impl_Jacobi_size.calls a0_0 _ _ l0_1 _ _ l0_2 t297 _ ?side1 ?side2 ?side3 ?side4 A4.out).mono ?_
  (case side1 => exact ZC HR0_1)
  (case side2 => exact HC0_1.out)
  (case side3 => exact ZC HR0_2)
  (case side4 => exact HC0_2.out)
  rintro e w10 ⟨rfl, hb⟩
  refine ⟨_, rfl, ?_⟩
  have n0_ := ZL BK294 hb
  have n1_ := ZL BK295 hb
  have n2_ := Aside0.mk (below_step ZB hb)
  clear BK294
  clear BK295
  clear HB
  have BK294 := n0_
  have BK295 := n1_
  have HB := n2_
  clear n0_ n1_ n2_
  (try clear hb)
  (try clear hb2)
  (try clear hk)
  (try clear hi)
  refine hK.out _ _ ⟨(blk_cell BK294.out 0).trans rfl, (blk_cell BK294.out 1).trans rfl, (blk_cell BK294.out 2).trans rfl⟩ (fun hHeld => ?_)
  clear hK K
  refine norm_ (a' := ?_) ?_ ?_
  rotate_left
  ·show Act.put _ (some 16) _ = _
   simp only [Act.put, List.setIfInBounds_toArray, List.set_cons_zero, List.set_cons_succ, i64_w, i32_w]
   rfl
  refine Zp 4 (some 6) (h := ?_)
  refine Zp 5 (some 7) (h := ?_)
  refine done_ (by kernel_rfl) ?_
  have hnb11 := NB295_294.out
  have hnc11 := NB294_295.out
  obtain ⟨hcz12_0, hcz12_1, hcz12_2, hfz12_0, hfz12_1, hfz12_2⟩ := ZD3 BK295
  try go_wp2
  refine bodyPost_ret (results_ct rfl _ _ gb295 29 #[.int .i64 0, .slice none 0 0, .slice none 0 0] (0, 0) _ rfl (by refine ZS ?_; refine blk_put (cs := #[.int .i64 0, .slice none 0 0, .slice none 0 0]) ?_ 2 _ rfl; refine ZS ?_; refine blk_put (cs := #[.int .i64 0, .slice none 0 0, .slice none 0 0]) ?_ 1 _ rfl; refine ZS ?_; refine blk_put (cs := #[.int .i64 0, .slice none 0 0, .slice none 0 0]) ?_ 0 _ rfl; refine ZS ?_; exact BK295.out) Try.underlying29 rfl (by kernel_rfl)) rfl ?_
  exact ⟨_, _, by first | rfl | (simp [errW_none, errW_some] <;> rfl) | (simp [*, errW_none, errW_some] <;> rfl), by first | exact Kd.R_nil _ _ _ _ _ | exact Kd.N_nil _ _ _ _ _ | exact Kd.V_nil _ _ _ _ _ | exact Kd.Q_nil _ _ _ _ _ | exact Kd.S_nil _ _ _ _ _, by first | exact Kd.R_nil _ _ _ _ _ | exact Kd.N_nil _ _ _ _ _ | exact Kd.V_nil _ _ _ _ _ | exact Kd.Q_nil _ _ _ _ _ | exact Kd.S_nil _ _ _ _ _, ZB⟩
 ·rw [if_neg c5] at H
  have c5b0 : decide (t297 < 2) = false := decide_eq_false c5
  clear c5
  have H' := Aside0.mk H
  clear H
  go_enter Try.func66, Try.ntmps66
  try go_wp2_with (first | ((with_reducible refine gate_dst (N := 2) rfl ?_); refine box_event ?hg (N := 2) ?hd (cs := #[.int .i64 a0_0, .slice A0_1 l0_1.length c0_1, .slice A0_2 l0_2.length c0_2]) (t := 29) ?hr ?_; (case hd => rfl); (case hg => rfl); (case hr => first | (go_simp; done) | (go_simp; rfl)); intro gb294 hg w13 hbox hb; have n0_ := Aside0.mk (below_step ZB hb); have n1_ := Aside0.mk (hbox); have n2_ := Aside0.mk ((ZG hg : w.heap.size ≤ gb294)); have n3_ := Aside0.mk ((ZG hg : w.heap.size ≤ gb294)); clear HB; have HB := n0_; have BK294 := n1_; have GW294 := n2_; have GE294 := n3_; clear n0_ n1_ n2_ n3_; clear hb hbox hg) | ((with_reducible refine gate_dst (N := 4) rfl ?_); refine box_event ?hg (N := 4) ?hd (cs := #[.int .i64 0, .slice none 0 0, .slice none 0 0]) (t := 29) ?hr ?_; (case hd => rfl); (case hg => rfl); (case hr => first | (go_simp; done) | (go_simp; rfl)); intro gb295 hg w14 hbox hb; have n0_ := ZL BK294 hb; have n1_ := Aside0.mk (below_step ZB hb); have n2_ := Aside0.mk (hbox); have n3_ := Aside0.mk ((ZG hg : w.heap.size ≤ gb295)); have n4_ := Aside0.mk ((ZG hg : w.heap.size ≤ gb295)); have n5_ := Aside0.mk ((ZN hg BK294 : gb294 ≠ gb295)); have n6_ := Aside0.mk ((ZM hg BK294 : gb295 ≠ gb294)); clear BK294; clear HB; have BK294 := n0_; have HB := n1_; have BK295 := n2_; have GW295 := n3_; have GE295 := n4_; have NB294_295 := n5_; have NB295_294 := n6_; clear n0_ n1_ n2_ n3_ n4_ n5_ n6_; clear hb hbox hg))
  have n0_ := Aside0.mk (blk_drew BK294.out)
  have n1_ := Aside0.mk (blk_drew BK295.out)
  have n2_ := Aside0.mk (below_drew1 HB.out)
  clear BK294
  clear BK295
  clear HB
  have BK294 := n0_
  have BK295 := n1_
  have HB := n2_
  clear n0_ n1_ n2_
  refine start_ (n := 6) (S := fun w' => w'.cell? ⟨gb294, 0, none⟩ = some (.int .i64 a0_0) ∧ w'.cell? ⟨gb294, 1, none⟩ = some (.slice A0_1 l0_1.length c0_1) ∧ w'.cell? ⟨gb294, 2, none⟩ = some (.slice A0_2 l0_2.length c0_2)) (ds := []) #[false, false, false, false, false, false] (by kernel_rfl) rfl rfl ⟨(blk_cell BK294.out 0).trans rfl, (blk_cell BK294.out 1).trans rfl, (blk_cell BK294.out 2).trans rfl⟩ (fun hHeld => ?_)
  generalize w14.drew = w15 at BK294 BK295 HB hHeld ⊢
  refine Zt3 0 (some 13) hHeld (h := ?_)
  refine Zt3 2 (some 15) hHeld (h := ?_)
  refine one_ (i := 1) (N := some 14) #[true, true, true, false, false, false] rfl rfl (by kernel_rfl) (by decide) (fun K hK => ?_)
  refine goes_ Try.func64 (by kernel_rfl) rfl #[.agg #[.int .i64 a0_0, .slice A0_1 l0_1.length c0_1, .slice A0_2 l0_2.length c0_2]] (by rfl) rfl rfl ZA ?_
  with_reducible refine (impl_Jacobi_field.calls a0_0 _ _ l0_1 _ _ l0_2 t296 _ ?side1 ?side2 ?side3 ?side4 A3.out).mono ?_
  (case side1 => exact ZC HR0_1)
  (case side2 => exact HC0_1.out)
  (case side3 => exact ZC HR0_2)
  (case side4 => exact HC0_2.out)
  rintro e w16 ⟨rfl, hb⟩
  refine ⟨_, rfl, ?_⟩
  have n0_ := ZL BK294 hb
  have n1_ := ZL BK295 hb
  have n2_ := Aside0.mk (below_step ZB hb)
  clear BK294
  clear BK295
  clear HB
  have BK294 := n0_
  have BK295 := n1_
  have HB := n2_
  clear n0_ n1_ n2_
  (try clear hb)
  (try clear hb2)
  (try clear hk)
  (try clear hi)
  refine hK.out _ _ ⟨(blk_cell BK294.out 0).trans rfl, (blk_cell BK294.out 1).trans rfl, (blk_cell BK294.out 2).trans rfl⟩ (fun hHeld => ?_)
  clear hK K
  refine norm_ (a' := ?_) ?_ ?_
  rotate_left
  ·show Act.put _ (some 14) _ = _
   simp only [Act.put, List.setIfInBounds_toArray, List.set_cons_zero, List.set_cons_succ, i64_w, i32_w]
   rfl
  refine one_ (i := 3) (N := some 16) #[true, true, true, true, false, false] rfl rfl (by kernel_rfl) (by decide) (fun K hK => ?_)
  refine goes_ Try.func59 (by kernel_rfl) rfl #[.agg #[.int .i64 a0_0, .slice A0_1 l0_1.length c0_1, .slice A0_2 l0_2.length c0_2]] (by rfl) rfl rfl ZA ?_
  with_reducible refine (impl_Jacobi_size.calls a0_0 _ _ l0_1 _ _ l0_2 t297 _ ?side1 ?side2 ?side3 ?side4 A4.out).mono ?_
  (case side1 => exact ZC HR0_1)
  (case side2 => exact HC0_1.out)
  (case side3 => exact ZC HR0_2)
  (case side4 => exact HC0_2.out)
  rintro e w17 ⟨rfl, hb⟩
  refine ⟨_, rfl, ?_⟩
  have n0_ := ZL BK294 hb
  have n1_ := ZL BK295 hb
  have n2_ := Aside0.mk (below_step ZB hb)
  clear BK294
  clear BK295
  clear HB
  have BK294 := n0_
  have BK295 := n1_
  have HB := n2_
  clear n0_ n1_ n2_
  (try clear hb)
  (try clear hb2)
  (try clear hk)
  (try clear hi)
  refine hK.out _ _ ⟨(blk_cell BK294.out 0).trans rfl, (blk_cell BK294.out 1).trans rfl, (blk_cell BK294.out 2).trans rfl⟩ (fun hHeld => ?_)
  clear hK K
  refine norm_ (a' := ?_) ?_ ?_
  rotate_left
  ·show Act.put _ (some 16) _ = _
   simp only [Act.put, List.setIfInBounds_toArray, List.set_cons_zero, List.set_cons_succ, i64_w, i32_w]
   rfl
  refine Zp 4 (some 6) (h := ?_)
  refine Zp 5 (some 7) (h := ?_)
  refine done_ (by kernel_rfl) ?_
  have hnb18 := NB294_295.out
  have hnc18 := NB295_294.out
  obtain ⟨hcz19_0, hcz19_1, hcz19_2, hfz19_0, hfz19_1, hfz19_2⟩ := ZD3 BK294
  try go_wp2_with (first | ((with_reducible refine gate_dst (N := 8) rfl ?_); refine box_event ?hg (N := 8) ?hd (cs := #[.int .i64 0, .slice none 0 0, .slice none 0 0]) (t := 29) ?hr ?_; (case hd => rfl); (case hg => rfl); (case hr => first | (go_simp; done) | (go_simp; rfl)); intro gb298 hg w20 hbox hb; have n0_ := ZL BK294 hb; have n1_ := ZL BK295 hb; have n2_ := Aside0.mk (below_step ZB hb); have n3_ := Aside0.mk (hbox); have n4_ := Aside0.mk ((ZG hg : w.heap.size ≤ gb298)); have n5_ := Aside0.mk ((ZG hg : w.heap.size ≤ gb298)); have n6_ := Aside0.mk ((ZN hg BK294 : gb294 ≠ gb298)); have n7_ := Aside0.mk ((ZM hg BK294 : gb298 ≠ gb294)); have n8_ := Aside0.mk ((ZN hg BK295 : gb295 ≠ gb298)); have n9_ := Aside0.mk ((ZM hg BK295 : gb298 ≠ gb295)); clear BK294; clear BK295; clear HB; have BK294 := n0_; have BK295 := n1_; have HB := n2_; have BK298 := n3_; have GW298 := n4_; have GE298 := n5_; have NB294_298 := n6_; have NB298_294 := n7_; have NB295_298 := n8_; have NB298_295 := n9_; clear n0_ n1_ n2_ n3_ n4_ n5_ n6_ n7_ n8_ n9_; clear hb hbox hg; have hnb21 := NB298_294.out; have hnc21 := NB294_298.out; have hnb22 := NB298_295.out; have hnc22 := NB295_298.out; obtain ⟨hcz23_0, hcz23_1, hcz23_2, hfz23_0, hfz23_1, hfz23_2⟩ := ZD3 BK298))
  go_loopg [9, 25] k (fun kq v9 v25 w' => ∃ (x9_1 : Int) (x25_1 : Int) (x296000_1 : Int) (x299001_1 : List Int) (x299002_1 : List Int) (u299001 : Value) (u299002 : Value), v9 = .int .i64 x9_1 ∧ v25 = .int .i64 x25_1 ∧ Aside0 (impl_Jacobi_step.l0 kq a1 t296 x9_1 (wrap64 (t297 - 1)) x25_1 a0_0 l0_1 l0_2 a0_0 x299001_1 x299002_1 = some (r1, r2, r3, r4)) ∧ Aside0 (kq ≤ k) ∧ Aside0 (Kd.R (Kd.int .i64) 2 w' w.heap.size (fun k_ => some k_ ≠ (u299002 : Value).ownBlock) u299001 x299001_1) ∧ Aside0 (Kd.R (Kd.int .i64) 2 w' w.heap.size (fun k_ => some k_ ≠ (u299001 : Value).ownBlock) u299002 x299002_1) ∧ Aside0 (w'.heap[gb294]? = some (.cells #[.int .i64 a0_0, (.slice A0_1 l0_1.length c0_1), (.slice A0_2 l0_2.length c0_2)] 29 (0, 0))) ∧ Aside0 (w'.heap[gb295]? = some (.cells #[.int .i64 x296000_1, (.slice none 0 0), (.slice none 0 0)] 29 (0, 0))) ∧ Aside0 (w'.heap[gb298]? = some (.cells #[.int .i64 a0_0, u299001, u299002] 29 (0, 0))) ∧ Aside0 (Below w.heap.size w w'))
  case atStart => exact ⟨(0), (0), (0), (([] : List Int)), (([] : List Int)), (.slice none 0 0), (.slice none 0 0), (by first | rfl | (simp; done) | (simp [*]; done)), (by first | rfl | (simp; done) | (simp [*]; done)), H', ⟨Nat.le_refl _⟩, ⟨by first | exact Kd.R_nil _ _ _ _ _ | exact Kd.N_nil _ _ _ _ _ | exact Kd.V_nil _ _ _ _ _ | exact Kd.Q_nil _ _ _ _ _ | exact Kd.S_nil _ _ _ _ _⟩, ⟨by first | exact Kd.R_nil _ _ _ _ _ | exact Kd.N_nil _ _ _ _ _ | exact Kd.V_nil _ _ _ _ _ | exact Kd.Q_nil _ _ _ _ _ | exact Kd.S_nil _ _ _ _ _⟩, ⟨by refine ZS ?_; refine blk_far ?_ NB294_298.out _; refine ZS ?_; refine blk_far ?_ NB294_298.out _; refine ZS ?_; refine blk_far ?_ NB294_298.out _; refine ZS ?_; exact BK294.out⟩, ⟨by refine ZS ?_; refine blk_far ?_ NB295_298.out _; refine ZS ?_; refine blk_far ?_ NB295_298.out _; refine ZS ?_; refine blk_far ?_ NB295_298.out _; refine ZS ?_; exact BK295.out⟩, ⟨by refine ZS ?_; refine blk_put (cs := #[.int .i64 a0_0, .slice none 0 0, .slice none 0 0]) ?_ 2 _ rfl; refine ZS ?_; refine blk_put (cs := #[.int .i64 a0_0, .slice none 0 0, .slice none 0 0]) ?_ 1 _ rfl; refine ZS ?_; refine blk_put (cs := #[.int .i64 0, .slice none 0 0, .slice none 0 0]) ?_ 0 _ rfl; refine ZS ?_; exact BK298.out⟩, ⟨ZB⟩⟩
  case round =>
   clear H'
   try clear c1
   try clear c2
   try clear p2
   try clear c5
   try clear c5b0
   try clear c6
   try clear p6
   try clear c11
   try clear c18
   try clear c21
   try clear c22
   try clear hcz12_0
   try clear hcz12_1
   try clear hcz12_2
   try clear hcz19_0
   try clear hcz19_1
   try clear hcz19_2
   try clear hcz23_0
   try clear hcz23_1
   try clear hcz23_2
   try clear hfz12_0
   try clear hfz12_1
   try clear hfz12_2
   try clear hfz19_0
   try clear hfz19_1
   try clear hfz19_2
   try clear hfz23_0
   try clear hfz23_1
   try clear hfz23_2
   obtain ⟨x9_1, x25_1, x296000_1, x299001_1, x299002_1, u299001, u299002, rfl, rfl, HA, HK1, HO_299001, HO_299002, BK294, BK295, BK298, HB⟩ := hrel
   cases gk with
   | zero => exact absurd HA.out (by simp [impl_Jacobi_step.l0])
   | succ k1 =>
    have H := HA.out
    clear HA
    simp only [impl_Jacobi_step.l0] at H
    by_cases c24 : x25_1 < (wrap64 (t297 - 1))
    ·rw [if_pos c24] at H
     have c24b0 : decide (x25_1 < (wrap64 (t297 - 1))) = true := decide_eq_true c24
     clear c24
     by_cases c25 : 0 ≤ x25_1
     ·rw [if_pos c25] at H
      have c25b0 : decide (0 ≤ x25_1) = true := decide_eq_true c25
      clear c25
      by_cases c26 : x25_1 < (l0_1.length : Int)
      ·rw [if_pos c26] at H
       have c26b0 : decide (x25_1 < (l0_1.length : Int)) = true := decide_eq_true c26
       clear c26
       replace H := Option.bind_eq_some_iff.mp H
       obtain ⟨t300, A270, H⟩ := H
       replace H : (if t300 = 0 then (some (0, ([] : List Int), ([] : List Int), false)) else ((impl_field_mul.f t296 t300 x9_1).bind fun t301 => (if x25_1 = 0 then (if 0 < (l0_2.length : Int) then ((impl_field_mul.f t296 (rd l0_2 0) t300).bind fun t303 => (if 0 ≤ (wrap64 (x25_1 + 1)) then (if (wrap64 (x25_1 + 1)) < (l0_2.length : Int) then ((impl_field_div.f k1 t296 (rd l0_2 (wrap64 (x25_1 + 1))) t300).bind fun t305 => ((impl_field_mod.f t296 (wrap64 ((wrap64 (t300 + t305)) + a1))).bind fun t306 => ((some (([t306] : List Int) : List Int)).bind fun y307 => (if x299001_1.length + y307.length < 17592186044416 then ((some (([t303] : List Int) : List Int)).bind fun y313 => (if x299002_1.length + y313.length < 17592186044416 then (impl_Jacobi_step.l0 k1 a1 t296 t305 (wrap64 (t297 - 1)) (wrap64 (x25_1 + 1)) a0_0 l0_1 l0_2 a0_0 (x299001_1 ++ y307) (x299002_1 ++ y313)) else (none))) else (none))))) else (none)) else (none))) else (none)) else (if 0 ≤ (wrap64 (x25_1 + 1)) then (if (wrap64 (x25_1 + 1)) < (l0_2.length : Int) then ((impl_field_div.f k1 t296 (rd l0_2 (wrap64 (x25_1 + 1))) t300).bind fun t320 => ((impl_field_mod.f t296 (wrap64 ((wrap64 (t300 + t320)) + a1))).bind fun t321 => ((some (([t321] : List Int) : List Int)).bind fun y322 => (if x299001_1.length + y322.length < 17592186044416 then ((some (([t301] : List Int) : List Int)).bind fun y328 => (if x299002_1.length + y328.length < 17592186044416 then (impl_Jacobi_step.l0 k1 a1 t296 t320 (wrap64 (t297 - 1)) (wrap64 (x25_1 + 1)) a0_0 l0_1 l0_2 a0_0 (x299001_1 ++ y322) (x299002_1 ++ y328)) else (none))) else (none))))) else (none)) else (none))))) = some (r1, r2, r3, r4) := H
       have A27 := Aside0.mk A270
       clear A270
       by_cases c28 : t300 = 0
       ·rw [if_pos c28] at H
        have c28b0 : (t300 == 0) = true := beq_iff_eq.mpr c28
        have c28b1 : (t300 != 0) = false := bne_eq_false_iff_eq.mpr c28
        clear c28
        simp only [Option.some.injEq, Prod.mk.injEq] at H
        obtain ⟨rfl, rfl, rfl, rfl⟩ := H
        have hnb29 := NB294_295.out
        have hnc29 := NB295_294.out
        have hnb30 := NB294_298.out
        have hnc30 := NB298_294.out
        obtain ⟨hcz31_0, hcz31_1, hcz31_2, hfz31_0, hfz31_1, hfz31_2⟩ := ZD3 BK294
        have p299 : 0 ≤ (x25_1 : Int) := of_decide_eq_true (by first | (with_reducible assumption) | assumption)
        have q299 : x25_1 < (l0_1.length : Int) := of_decide_eq_true (by first | (with_reducible assumption) | assumption)
        obtain ⟨ad299, e299, hx299_0⟩ := Kd.at_int HR0_1.out x25_1 p299 q299
        cases e299
        replace hx299_0 := (HB.out.cell (World.block_lt_of_cell? w _ hx299_0)).trans hx299_0
        replace p299 := eq_true p299
        replace q299 := eq_true q299
        go_wp2_with (first | ((with_reducible refine gate_callee (f := 97) rfl ?_); refine goesL_ (some 38) rfl rfl Try.func97 (by kernel_rfl) rfl #[.int .i64 t296, .int .i64 (wrap64 ((wrap64 ((rd l0_1 x25_1) - a1)) - x9_1))] rfl ZA ?_; (with_reducible refine (impl_field_mod.calls t296 (wrap64 ((wrap64 ((rd l0_1 x25_1) - a1)) - x9_1)) t300 _ A27.out).mono ?_); rintro e w' ⟨rfl, ⟨nd, rfl⟩⟩; refine ⟨_, rfl, ?_⟩; (try (rw [drewN_self wr]; generalize hq_ : World.drewN wr _ = wr; have n0_ : Aside0 (Kd.R (Kd.int .i64) 2 wr w.heap.size (fun k_ => some k_ ≠ (u299002 : Value).ownBlock) u299001 x299001_1) := ⟨by rw [← hq_]; exact (ZR HO_299001)⟩; have n1_ : Aside0 (Kd.R (Kd.int .i64) 2 wr w.heap.size (fun k_ => some k_ ≠ (u299001 : Value).ownBlock) u299002 x299002_1) := ⟨by rw [← hq_]; exact (ZR HO_299002)⟩; have n2_ : Aside0 (wr.heap[gb294]? = some (.cells #[.int .i64 a0_0, .slice (some ad299) l0_1.length c0_1, .slice A0_2 l0_2.length c0_2] 29 (0, 0))) := ⟨by rw [← hq_]; exact (ZK BK294)⟩; have n3_ : Aside0 (wr.heap[gb295]? = some (.cells #[.int .i64 x296000_1, .slice none 0 0, .slice none 0 0] 29 (0, 0))) := ⟨by rw [← hq_]; exact (ZK BK295)⟩; have n4_ : Aside0 (wr.heap[gb298]? = some (.cells #[.int .i64 a0_0, u299001, u299002] 29 (0, 0))) := ⟨by rw [← hq_]; exact (ZK BK298)⟩; have n5_ : Aside0 (Below w.heap.size w wr) := ⟨by rw [← hq_]; exact ZB⟩; clear HO_299001 HO_299002 BK294 BK295 BK298 HB hq_; have HO_299001 := n0_; have HO_299002 := n1_; have BK294 := n2_; have BK295 := n3_; have BK298 := n4_; have HB := n5_; clear n0_ n1_ n2_ n3_ n4_ n5_)); (try (obtain ⟨hcy294_0, hcy294_1, hcy294_2, hfy294_0, hfy294_1, hfy294_2⟩ := ZD3 BK294)); (try (obtain ⟨hcy295_0, hcy295_1, hcy295_2, hfy295_0, hfy295_1, hfy295_2⟩ := ZD3 BK295)); (try (obtain ⟨hcy298_0, hcy298_1, hcy298_2, hfy298_0, hfy298_1, hfy298_2⟩ := ZD3 BK298)); have hnb32 := NB295_298.out; have hnc32 := NB298_295.out; obtain ⟨hcz33_0, hcz33_1, hcz33_2, hfz33_0, hfz33_1, hfz33_2⟩ := ZD3 BK295))
        refine bodyPost_ret (results_ct rfl _ _ gb295 29 #[.int .i64 0, .slice none 0 0, .slice none 0 0] (0, 0) _ rfl (by refine ZS ?_; refine blk_put (cs := #[.int .i64 0, .slice none 0 0, .slice none 0 0]) ?_ 2 _ rfl; refine ZS ?_; refine blk_put (cs := #[.int .i64 0, .slice none 0 0, .slice none 0 0]) ?_ 1 _ rfl; refine ZS ?_; refine blk_put (cs := #[.int .i64 x296000_1, .slice none 0 0, .slice none 0 0]) ?_ 0 _ rfl; refine ZS ?_; exact BK295.out) Try.underlying29 rfl (by kernel_rfl)) rfl ?_
        exact ⟨_, _, by first | rfl | (simp [errW_none, errW_some] <;> rfl) | (simp [*, errW_none, errW_some] <;> rfl), by first | exact Kd.R_nil _ _ _ _ _ | exact Kd.N_nil _ _ _ _ _ | exact Kd.V_nil _ _ _ _ _ | exact Kd.Q_nil _ _ _ _ _ | exact Kd.S_nil _ _ _ _ _, by first | exact Kd.R_nil _ _ _ _ _ | exact Kd.N_nil _ _ _ _ _ | exact Kd.V_nil _ _ _ _ _ | exact Kd.Q_nil _ _ _ _ _ | exact Kd.S_nil _ _ _ _ _, ZB⟩
       ·rw [if_neg c28] at H
        have c28b0 : (t300 == 0) = false := beq_eq_false_iff_ne.mpr c28
        have c28b1 : (t300 != 0) = true := bne_iff_ne.mpr c28
        replace H := Option.bind_eq_some_iff.mp H
        obtain ⟨t301, A340, H⟩ := H
        replace H : (if x25_1 = 0 then (if 0 < (l0_2.length : Int) then ((impl_field_mul.f t296 (rd l0_2 0) t300).bind fun t303 => (if 0 ≤ (wrap64 (x25_1 + 1)) then (if (wrap64 (x25_1 + 1)) < (l0_2.length : Int) then ((impl_field_div.f k1 t296 (rd l0_2 (wrap64 (x25_1 + 1))) t300).bind fun t305 => ((impl_field_mod.f t296 (wrap64 ((wrap64 (t300 + t305)) + a1))).bind fun t306 => ((some (([t306] : List Int) : List Int)).bind fun y307 => (if x299001_1.length + y307.length < 17592186044416 then ((some (([t303] : List Int) : List Int)).bind fun y313 => (if x299002_1.length + y313.length < 17592186044416 then (impl_Jacobi_step.l0 k1 a1 t296 t305 (wrap64 (t297 - 1)) (wrap64 (x25_1 + 1)) a0_0 l0_1 l0_2 a0_0 (x299001_1 ++ y307) (x299002_1 ++ y313)) else (none))) else (none))))) else (none)) else (none))) else (none)) else (if 0 ≤ (wrap64 (x25_1 + 1)) then (if (wrap64 (x25_1 + 1)) < (l0_2.length : Int) then ((impl_field_div.f k1 t296 (rd l0_2 (wrap64 (x25_1 + 1))) t300).bind fun t320 => ((impl_field_mod.f t296 (wrap64 ((wrap64 (t300 + t320)) + a1))).bind fun t321 => ((some (([t321] : List Int) : List Int)).bind fun y322 => (if x299001_1.length + y322.length < 17592186044416 then ((some (([t301] : List Int) : List Int)).bind fun y328 => (if x299002_1.length + y328.length < 17592186044416 then (impl_Jacobi_step.l0 k1 a1 t296 t320 (wrap64 (t297 - 1)) (wrap64 (x25_1 + 1)) a0_0 l0_1 l0_2 a0_0 (x299001_1 ++ y322) (x299002_1 ++ y328)) else (none))) else (none))))) else (none)) else (none))) = some (r1, r2, r3, r4) := H
        have A34 := Aside0.mk A340
        clear A340
        by_cases c35 : x25_1 = 0
        ·rw [if_pos c35] at H
         have c35b0 : (x25_1 == 0) = true := beq_iff_eq.mpr c35
         have c35b1 : (x25_1 != 0) = false := bne_eq_false_iff_eq.mpr c35
         clear c35
         by_cases c36 : 0 < (l0_2.length : Int)
         ·rw [if_pos c36] at H
          have c36b0 : decide (0 < (l0_2.length : Int)) = true := decide_eq_true c36
          have c36b1 : decide (0 < l0_2.length) = true := decide_eq_true (by omega)
          clear c36
          replace H := Option.bind_eq_some_iff.mp H
          obtain ⟨t303, A370, H⟩ := H
          replace H : (if 0 ≤ (wrap64 (x25_1 + 1)) then (if (wrap64 (x25_1 + 1)) < (l0_2.length : Int) then ((impl_field_div.f k1 t296 (rd l0_2 (wrap64 (x25_1 + 1))) t300).bind fun t305 => ((impl_field_mod.f t296 (wrap64 ((wrap64 (t300 + t305)) + a1))).bind fun t306 => ((some (([t306] : List Int) : List Int)).bind fun y307 => (if x299001_1.length + y307.length < 17592186044416 then ((some (([t303] : List Int) : List Int)).bind fun y313 => (if x299002_1.length + y313.length < 17592186044416 then (impl_Jacobi_step.l0 k1 a1 t296 t305 (wrap64 (t297 - 1)) (wrap64 (x25_1 + 1)) a0_0 l0_1 l0_2 a0_0 (x299001_1 ++ y307) (x299002_1 ++ y313)) else (none))) else (none))))) else (none)) else (none)) = some (r1, r2, r3, r4) := H
          have A37 := Aside0.mk A370
          clear A370
          obtain ⟨ji38, hji38⟩ : ∃ j_ : Int, (wrap64 (x25_1 + 1)) = j_ := ⟨_, rfl⟩
          replace H : (if 0 ≤ (ji38) then (if (ji38) < (l0_2.length : Int) then ((impl_field_div.f k1 t296 (rd l0_2 (ji38)) t300).bind fun t305 => ((impl_field_mod.f t296 (wrap64 ((wrap64 (t300 + t305)) + a1))).bind fun t306 => ((some (([t306] : List Int) : List Int)).bind fun y307 => (if x299001_1.length + y307.length < 17592186044416 then ((some (([t303] : List Int) : List Int)).bind fun y313 => (if x299002_1.length + y313.length < 17592186044416 then (impl_Jacobi_step.l0 k1 a1 t296 t305 (wrap64 (t297 - 1)) ji38 a0_0 l0_1 l0_2 a0_0 (x299001_1 ++ y307) (x299002_1 ++ y313)) else (none))) else (none))))) else (none)) else (none)) = some (r1, r2, r3, r4) := by first | (rw [hji38] at H; exact H) | (simp only [hji38] at H ⊢; exact H)
          (try rw [hji38] at A27)
          (try rw [hji38] at A34)
          (try rw [hji38] at A37)
          have hji38w : (IntKind.i64.wrap (x25_1 + 1)) = ji38 := (i64_w _).trans hji38
          by_cases c39 : 0 ≤ (ji38)
          ·rw [if_pos c39] at H
           have c39b0 : decide (0 ≤ (ji38)) = true := decide_eq_true c39
           clear c39
           by_cases c40 : (ji38) < (l0_2.length : Int)
           ·rw [if_pos c40] at H
            have c40b0 : decide ((ji38) < (l0_2.length : Int)) = true := decide_eq_true c40
            clear c40
            replace H := Option.bind_eq_some_iff.mp H
            obtain ⟨t305, A410, H⟩ := H
            replace H : ((impl_field_mod.f t296 (wrap64 ((wrap64 (t300 + t305)) + a1))).bind fun t306 => ((some (([t306] : List Int) : List Int)).bind fun y307 => (if x299001_1.length + y307.length < 17592186044416 then ((some (([t303] : List Int) : List Int)).bind fun y313 => (if x299002_1.length + y313.length < 17592186044416 then (impl_Jacobi_step.l0 k1 a1 t296 t305 (wrap64 (t297 - 1)) ji38 a0_0 l0_1 l0_2 a0_0 (x299001_1 ++ y307) (x299002_1 ++ y313)) else (none))) else (none)))) = some (r1, r2, r3, r4) := H
            have A41 := Aside0.mk A410
            clear A410
            replace H := Option.bind_eq_some_iff.mp H
            obtain ⟨t306, A420, H⟩ := H
            replace H : ((some (([t306] : List Int) : List Int)).bind fun y307 => (if x299001_1.length + y307.length < 17592186044416 then ((some (([t303] : List Int) : List Int)).bind fun y313 => (if x299002_1.length + y313.length < 17592186044416 then (impl_Jacobi_step.l0 k1 a1 t296 t305 (wrap64 (t297 - 1)) ji38 a0_0 l0_1 l0_2 a0_0 (x299001_1 ++ y307) (x299002_1 ++ y313)) else (none))) else (none))) = some (r1, r2, r3, r4) := H
            have A42 := Aside0.mk A420
            clear A420
            obtain ⟨y307, hy307⟩ : ∃ y_ : List Int, y_ = (([t306] : List Int)) := ⟨_, rfl⟩
            replace H : (if x299001_1.length + y307.length < 17592186044416 then ((some (([t303] : List Int) : List Int)).bind fun y313 => (if x299002_1.length + y313.length < 17592186044416 then (impl_Jacobi_step.l0 k1 a1 t296 t305 (wrap64 (t297 - 1)) ji38 a0_0 l0_1 l0_2 a0_0 (x299001_1 ++ y307) (x299002_1 ++ y313)) else (none))) else (none)) = some (r1, r2, r3, r4) := by first | (rw [hy307]; with_reducible exact H) | (have H2_ := (Option.bind_some _ _).symm.trans H; rw [hy307]; with_reducible exact H2_) | (have H2_ := (Option.bind_some _ _).symm.trans H; with_reducible exact H2_) | with_reducible exact H | (rw [hy307]; exact H) | exact H
            have Ny307 := Aside0.mk hy307
            clear hy307
            by_cases c43 : x299001_1.length + y307.length < 17592186044416
            ·rw [if_pos c43] at H
             have LMc43 := Aside0.mk c43
             clear c43
             obtain ⟨y310, hy310⟩ : ∃ y_ : List Int, y_ = (x299001_1 ++ y307) := ⟨_, rfl⟩
             replace H : ((some (([t303] : List Int) : List Int)).bind fun y313 => (if x299002_1.length + y313.length < 17592186044416 then (impl_Jacobi_step.l0 k1 a1 t296 t305 (wrap64 (t297 - 1)) ji38 a0_0 l0_1 l0_2 a0_0 y310 (x299002_1 ++ y313)) else (none))) = some (r1, r2, r3, r4) := by first | (rw [hy310]; with_reducible exact H) | (have H2_ := (Option.bind_some _ _).symm.trans H; rw [hy310]; with_reducible exact H2_) | (have H2_ := (Option.bind_some _ _).symm.trans H; with_reducible exact H2_) | with_reducible exact H | (rw [hy310]; exact H) | exact H
             have Ny310 := Aside0.mk hy310
             clear hy310
             obtain ⟨y313, hy313⟩ : ∃ y_ : List Int, y_ = (([t303] : List Int)) := ⟨_, rfl⟩
             replace H : (if x299002_1.length + y313.length < 17592186044416 then (impl_Jacobi_step.l0 k1 a1 t296 t305 (wrap64 (t297 - 1)) ji38 a0_0 l0_1 l0_2 a0_0 y310 (x299002_1 ++ y313)) else (none)) = some (r1, r2, r3, r4) := by first | (rw [hy313]; with_reducible exact H) | (have H2_ := (Option.bind_some _ _).symm.trans H; rw [hy313]; with_reducible exact H2_) | (have H2_ := (Option.bind_some _ _).symm.trans H; with_reducible exact H2_) | with_reducible exact H | (rw [hy313]; exact H) | exact H
             have Ny313 := Aside0.mk hy313
             clear hy313
             by_cases c44 : x299002_1.length + y313.length < 17592186044416
             ·rw [if_pos c44] at H
              have LMc44 := Aside0.mk c44
              clear c44
              obtain ⟨y316, hy316⟩ : ∃ y_ : List Int, y_ = (x299002_1 ++ y313) := ⟨_, rfl⟩
              replace H : (impl_Jacobi_step.l0 k1 a1 t296 t305 (wrap64 (t297 - 1)) ji38 a0_0 l0_1 l0_2 a0_0 y310 y316) = some (r1, r2, r3, r4) := by first | (rw [hy316]; with_reducible exact H) | (have H2_ := (Option.bind_some _ _).symm.trans H; rw [hy316]; with_reducible exact H2_) | (have H2_ := (Option.bind_some _ _).symm.trans H; with_reducible exact H2_) | with_reducible exact H | (rw [hy316]; exact H) | exact H
              have Ny316 := Aside0.mk hy316
              clear hy316
              have H' := Aside0.mk H
              clear H
              have hnb45 := NB294_295.out
              have hnc45 := NB295_294.out
              have hnb46 := NB294_298.out
              have hnc46 := NB298_294.out
              obtain ⟨hcz47_0, hcz47_1, hcz47_2, hfz47_0, hfz47_1, hfz47_2⟩ := ZD3 BK294
              have p299 : 0 ≤ (x25_1 : Int) := of_decide_eq_true (by first | (with_reducible assumption) | assumption)
              have q299 : x25_1 < (l0_1.length : Int) := of_decide_eq_true (by first | (with_reducible assumption) | assumption)
              obtain ⟨ad299, e299, hx299_0⟩ := Kd.at_int HR0_1.out x25_1 p299 q299
              cases e299
              replace hx299_0 := (HB.out.cell (World.block_lt_of_cell? w _ hx299_0)).trans hx299_0
              replace p299 := eq_true p299
              replace q299 := eq_true q299
              try go_wp2_with (first | ((with_reducible refine gate_callee (f := 97) rfl ?_); refine goesL_ (some 38) rfl rfl Try.func97 (by kernel_rfl) rfl #[.int .i64 t296, .int .i64 (wrap64 ((wrap64 ((rd l0_1 x25_1) - a1)) - x9_1))] rfl ZA ?_; (with_reducible refine (impl_field_mod.calls t296 (wrap64 ((wrap64 ((rd l0_1 x25_1) - a1)) - x9_1)) t300 _ A27.out).mono ?_); rintro e w' ⟨rfl, ⟨nd, rfl⟩⟩; refine ⟨_, rfl, ?_⟩; (try (rw [drewN_self wr]; generalize hq_ : World.drewN wr _ = wr; have n0_ : Aside0 (Kd.R (Kd.int .i64) 2 wr w.heap.size (fun k_ => some k_ ≠ (u299002 : Value).ownBlock) u299001 x299001_1) := ⟨by rw [← hq_]; exact (ZR HO_299001)⟩; have n1_ : Aside0 (Kd.R (Kd.int .i64) 2 wr w.heap.size (fun k_ => some k_ ≠ (u299001 : Value).ownBlock) u299002 x299002_1) := ⟨by rw [← hq_]; exact (ZR HO_299002)⟩; have n2_ : Aside0 (wr.heap[gb294]? = some (.cells #[.int .i64 a0_0, .slice (some ad299) l0_1.length c0_1, .slice A0_2 l0_2.length c0_2] 29 (0, 0))) := ⟨by rw [← hq_]; exact (ZK BK294)⟩; have n3_ : Aside0 (wr.heap[gb295]? = some (.cells #[.int .i64 x296000_1, .slice none 0 0, .slice none 0 0] 29 (0, 0))) := ⟨by rw [← hq_]; exact (ZK BK295)⟩; have n4_ : Aside0 (wr.heap[gb298]? = some (.cells #[.int .i64 a0_0, u299001, u299002] 29 (0, 0))) := ⟨by rw [← hq_]; exact (ZK BK298)⟩; have n5_ : Aside0 (Below w.heap.size w wr) := ⟨by rw [← hq_]; exact ZB⟩; clear HO_299001 HO_299002 BK294 BK295 BK298 HB hq_; have HO_299001 := n0_; have HO_299002 := n1_; have BK294 := n2_; have BK295 := n3_; have BK298 := n4_; have HB := n5_; clear n0_ n1_ n2_ n3_ n4_ n5_)); (try (obtain ⟨hcy294_0, hcy294_1, hcy294_2, hfy294_0, hfy294_1, hfy294_2⟩ := ZD3 BK294)); (try (obtain ⟨hcy295_0, hcy295_1, hcy295_2, hfy295_0, hfy295_1, hfy295_2⟩ := ZD3 BK295)); (try (obtain ⟨hcy298_0, hcy298_1, hcy298_2, hfy298_0, hfy298_1, hfy298_2⟩ := ZD3 BK298))) | ((with_reducible refine gate_callee (f := 101) rfl ?_); refine goesL_ (some 45) rfl rfl Try.func101 (by kernel_rfl) rfl #[.int .i64 t296, .int .i64 t300, .int .i64 x9_1] rfl ZA ?_; (with_reducible refine (impl_field_mul.calls t296 t300 x9_1 t301 _ A34.out).mono ?_); rintro e w' ⟨rfl, ⟨nd, rfl⟩⟩; refine ⟨_, rfl, ?_⟩; (try (rw [drewN_self wr]; generalize hq_ : World.drewN wr _ = wr; have n0_ : Aside0 (Kd.R (Kd.int .i64) 2 wr w.heap.size (fun k_ => some k_ ≠ (u299002 : Value).ownBlock) u299001 x299001_1) := ⟨by rw [← hq_]; exact (ZR HO_299001)⟩; have n1_ : Aside0 (Kd.R (Kd.int .i64) 2 wr w.heap.size (fun k_ => some k_ ≠ (u299001 : Value).ownBlock) u299002 x299002_1) := ⟨by rw [← hq_]; exact (ZR HO_299002)⟩; have n2_ : Aside0 (wr.heap[gb294]? = some (.cells #[.int .i64 a0_0, .slice (some ad299) l0_1.length c0_1, .slice A0_2 l0_2.length c0_2] 29 (0, 0))) := ⟨by rw [← hq_]; exact (ZK BK294)⟩; have n3_ : Aside0 (wr.heap[gb295]? = some (.cells #[.int .i64 x296000_1, .slice none 0 0, .slice none 0 0] 29 (0, 0))) := ⟨by rw [← hq_]; exact (ZK BK295)⟩; have n4_ : Aside0 (wr.heap[gb298]? = some (.cells #[.int .i64 a0_0, u299001, u299002] 29 (0, 0))) := ⟨by rw [← hq_]; exact (ZK BK298)⟩; have n5_ : Aside0 (Below w.heap.size w wr) := ⟨by rw [← hq_]; exact ZB⟩; clear HO_299001 HO_299002 BK294 BK295 BK298 HB hq_; have HO_299001 := n0_; have HO_299002 := n1_; have BK294 := n2_; have BK295 := n3_; have BK298 := n4_; have HB := n5_; clear n0_ n1_ n2_ n3_ n4_ n5_)); (try (obtain ⟨hcy294_0, hcy294_1, hcy294_2, hfy294_0, hfy294_1, hfy294_2⟩ := ZD3 BK294)); (try (obtain ⟨hcy295_0, hcy295_1, hcy295_2, hfy295_0, hfy295_1, hfy295_2⟩ := ZD3 BK295)); (try (obtain ⟨hcy298_0, hcy298_1, hcy298_2, hfy298_0, hfy298_1, hfy298_2⟩ := ZD3 BK298)); have p302 : 0 ≤ (0 : Int) := (by omega); have q302 : 0 < (l0_2.length : Int) := of_decide_eq_true (by first | (with_reducible assumption) | assumption); obtain ⟨ad302, e302, hx302_0⟩ := Kd.at_int HR0_2.out 0 p302 q302; cases e302; have qi302 : (0 < l0_2.length) = True := eq_true (by omega); (try rw [show ((0 : Int)).toNat = 0 from rfl] at hx302_0); (try rw [Addr.add_zero'] at hx302_0); replace hx302_0 := (HB.out.cell (World.block_lt_of_cell? w _ hx302_0)).trans hx302_0; replace p302 := eq_true p302; replace q302 := eq_true q302) | ((with_reducible refine gate_callee (f := 101) rfl ?_); refine goesL_ (some 54) rfl rfl Try.func101 (by kernel_rfl) rfl #[.int .i64 t296, .int .i64 (rd l0_2 0), .int .i64 t300] rfl ZA ?_; (with_reducible refine (impl_field_mul.calls t296 (rd l0_2 0) t300 t303 _ A37.out).mono ?_); rintro e w' ⟨rfl, ⟨nd, rfl⟩⟩; refine ⟨_, rfl, ?_⟩; (try (rw [drewN_self wr]; generalize hq_ : World.drewN wr _ = wr; have n0_ : Aside0 (Kd.R (Kd.int .i64) 2 wr w.heap.size (fun k_ => some k_ ≠ (u299002 : Value).ownBlock) u299001 x299001_1) := ⟨by rw [← hq_]; exact (ZR HO_299001)⟩; have n1_ : Aside0 (Kd.R (Kd.int .i64) 2 wr w.heap.size (fun k_ => some k_ ≠ (u299001 : Value).ownBlock) u299002 x299002_1) := ⟨by rw [← hq_]; exact (ZR HO_299002)⟩; have n2_ : Aside0 (wr.heap[gb294]? = some (.cells #[.int .i64 a0_0, .slice (some ad299) l0_1.length c0_1, .slice (some ad302) l0_2.length c0_2] 29 (0, 0))) := ⟨by rw [← hq_]; exact (ZK BK294)⟩; have n3_ : Aside0 (wr.heap[gb295]? = some (.cells #[.int .i64 x296000_1, .slice none 0 0, .slice none 0 0] 29 (0, 0))) := ⟨by rw [← hq_]; exact (ZK BK295)⟩; have n4_ : Aside0 (wr.heap[gb298]? = some (.cells #[.int .i64 a0_0, u299001, u299002] 29 (0, 0))) := ⟨by rw [← hq_]; exact (ZK BK298)⟩; have n5_ : Aside0 (Below w.heap.size w wr) := ⟨by rw [← hq_]; exact ZB⟩; clear HO_299001 HO_299002 BK294 BK295 BK298 HB hq_; have HO_299001 := n0_; have HO_299002 := n1_; have BK294 := n2_; have BK295 := n3_; have BK298 := n4_; have HB := n5_; clear n0_ n1_ n2_ n3_ n4_ n5_)); (try (obtain ⟨hcy294_0, hcy294_1, hcy294_2, hfy294_0, hfy294_1, hfy294_2⟩ := ZD3 BK294)); (try (obtain ⟨hcy295_0, hcy295_1, hcy295_2, hfy295_0, hfy295_1, hfy295_2⟩ := ZD3 BK295)); (try (obtain ⟨hcy298_0, hcy298_1, hcy298_2, hfy298_0, hfy298_1, hfy298_2⟩ := ZD3 BK298)); have p304 : 0 ≤ ((ji38) : Int) := of_decide_eq_true (by first | (with_reducible assumption) | assumption); have q304 : (ji38) < (l0_2.length : Int) := of_decide_eq_true (by first | (with_reducible assumption) | assumption); obtain ⟨ad304, e304, hx304_0⟩ := Kd.at_int HR0_2.out (ji38) p304 q304; obtain rfl : ad302 = ad304 := (by injection e304); replace hx304_0 := (HB.out.cell (World.block_lt_of_cell? w _ hx304_0)).trans hx304_0; replace p304 := eq_true p304; replace q304 := eq_true q304) | ((with_reducible refine gate_callee (f := 102) rfl ?_); refine goesL_ (some 63) rfl rfl Try.func102 (by kernel_rfl) rfl #[.int .i64 t296, .int .i64 (rd l0_2 (ji38)), .int .i64 t300] rfl (by (try simp only [List.map_toArray, List.map_cons, List.map_nil]); first | done | (simp only [hji38]; rfl) | rfl | (simp only [List.length_drop, List.length_take]; rfl)) ?_; (with_reducible refine (impl_field_div.calls k1 t296 (rd l0_2 (ji38)) t300 t305 _ A41.out).mono ?_); rintro e w' ⟨rfl, ⟨nd, rfl⟩⟩; refine ⟨_, rfl, ?_⟩; (try (rw [drewN_self wr]; generalize hq_ : World.drewN wr _ = wr; have n0_ : Aside0 (Kd.R (Kd.int .i64) 2 wr w.heap.size (fun k_ => some k_ ≠ (u299002 : Value).ownBlock) u299001 x299001_1) := ⟨by rw [← hq_]; exact (ZR HO_299001)⟩; have n1_ : Aside0 (Kd.R (Kd.int .i64) 2 wr w.heap.size (fun k_ => some k_ ≠ (u299001 : Value).ownBlock) u299002 x299002_1) := ⟨by rw [← hq_]; exact (ZR HO_299002)⟩; have n2_ : Aside0 (wr.heap[gb294]? = some (.cells #[.int .i64 a0_0, .slice (some ad299) l0_1.length c0_1, .slice (some ad302) l0_2.length c0_2] 29 (0, 0))) := ⟨by rw [← hq_]; exact (ZK BK294)⟩; have n3_ : Aside0 (wr.heap[gb295]? = some (.cells #[.int .i64 x296000_1, .slice none 0 0, .slice none 0 0] 29 (0, 0))) := ⟨by rw [← hq_]; exact (ZK BK295)⟩; have n4_ : Aside0 (wr.heap[gb298]? = some (.cells #[.int .i64 a0_0, u299001, u299002] 29 (0, 0))) := ⟨by rw [← hq_]; exact (ZK BK298)⟩; have n5_ : Aside0 (Below w.heap.size w wr) := ⟨by rw [← hq_]; exact ZB⟩; clear HO_299001 HO_299002 BK294 BK295 BK298 HB hq_; have HO_299001 := n0_; have HO_299002 := n1_; have BK294 := n2_; have BK295 := n3_; have BK298 := n4_; have HB := n5_; clear n0_ n1_ n2_ n3_ n4_ n5_)); (try (obtain ⟨hcy294_0, hcy294_1, hcy294_2, hfy294_0, hfy294_1, hfy294_2⟩ := ZD3 BK294)); (try (obtain ⟨hcy295_0, hcy295_1, hcy295_2, hfy295_0, hfy295_1, hfy295_2⟩ := ZD3 BK295)); (try (obtain ⟨hcy298_0, hcy298_1, hcy298_2, hfy298_0, hfy298_1, hfy298_2⟩ := ZD3 BK298)); obtain ⟨Ao48, co48, eo48⟩ := Kd.R_slice HO_299001.out; subst eo48; obtain ⟨Ao49, co49, eo49⟩ := Kd.R_slice HO_299002.out; subst eo49))
              have n0_ := Aside0.mk (Kd.R_drew HO_299001.out)
              have n1_ := Aside0.mk (Kd.R_drew HO_299002.out)
              have n2_ := Aside0.mk (blk_drew BK294.out)
              have n3_ := Aside0.mk (blk_drew BK295.out)
              have n4_ := Aside0.mk (blk_drew BK298.out)
              have n5_ := Aside0.mk (below_drew1 HB.out)
              clear HO_299001
              clear HO_299002
              clear BK294
              clear BK295
              clear BK298
              clear HB
              have HO_299001 := n0_
              have HO_299002 := n1_
              have BK294 := n2_
              have BK295 := n3_
              have BK298 := n4_
              have HB := n5_
              clear n0_ n1_ n2_ n3_ n4_ n5_
              refine start_ (n := 20) (S := fun w' => w'.cell? ⟨gb298, 0, none⟩ = some (.int .i64 a0_0) ∧ w'.cell? ⟨gb298, 1, none⟩ = some (.slice Ao48 x299001_1.length co48) ∧ w'.cell? ⟨gb298, 2, none⟩ = some (.slice Ao49 x299002_1.length co49)) (ds := [17, 19]) #[false, false, false, false, false, false, false, false, false, false, false, false, false, false, false, false, false, false, false, false] (by kernel_rfl) rfl rfl ⟨(blk_cell BK298.out 0).trans rfl, (blk_cell BK298.out 1).trans rfl, (blk_cell BK298.out 2).trans rfl⟩ (fun hHeld => ?_); refine with_tabW impl_Jacobi_step.tab16 impl_Jacobi_step.bits16 (fun HT_ HW_ => ?_)
              generalize wr.drew = w50 at HO_299001 HO_299002 BK294 BK295 BK298 HB hHeld ⊢
              refine Zpt 0 (some 64) (h := ?_)
              refine Zpt 2 (some 66) (h := ?_)
              refine Zpt 3 (some 67) (h := ?_)
              refine Zpt 4 (some 68) (h := ?_)
              refine Zpt 5 (some 69) (h := ?_)
              refine Zpt 6 (some 70) (h := ?_)
              refine Zpt 7 (some 71) (h := ?_)
              refine Zpt 11 (some 75) (h := ?_)
              refine Zpt 13 (some 77) (h := ?_)
              refine ZtW3 1 (some 65) hHeld (h := ?_)
              refine ZtW3 12 (some 76) hHeld (h := ?_)
              refine join_ (σ := Value × Value × Value) 4 #[true, true, true, true, true, true, true, true, true, true, true, true, true, true, true, false, true, false, false, false] (fun s_ => [(72, .int .i64 t306), (73, s_.1), (74, s_.2.1), (78, s_.2.2), (80, .pointer (some ⟨gb298, 1, none⟩))]) (fun s_ w' => (w'.cell? ⟨gb298, 0, none⟩ = some (.int .i64 a0_0) ∧ w'.cell? ⟨gb298, 1, none⟩ = some (.slice Ao48 x299001_1.length co48) ∧ w'.cell? ⟨gb298, 2, none⟩ = some (.slice Ao49 x299002_1.length co49)) ∧ (Kd.R (Kd.int .i64) 2 w' w.heap.size (fun k_ => some k_ ≠ (s_.2.1 : Value).ownBlock ∧ some k_ ≠ (s_.2.2 : Value).ownBlock ∧ some k_ ≠ (.slice Ao49 x299002_1.length co49 : Value).ownBlock) s_.1 y307) ∧ (Kd.R (Kd.int .i64) 2 w' w.heap.size (fun k_ => some k_ ≠ (s_.1 : Value).ownBlock ∧ some k_ ≠ (s_.2.2 : Value).ownBlock ∧ some k_ ≠ (.slice Ao49 x299002_1.length co49 : Value).ownBlock) s_.2.1 y310) ∧ (Kd.R (Kd.int .i64) 2 w' w.heap.size (fun k_ => some k_ ≠ (s_.1 : Value).ownBlock ∧ some k_ ≠ (s_.2.1 : Value).ownBlock ∧ some k_ ≠ (.slice Ao49 x299002_1.length co49 : Value).ownBlock) s_.2.2 y313) ∧ (Kd.R (Kd.int .i64) 2 w' w.heap.size (fun k_ => some k_ ≠ (s_.1 : Value).ownBlock ∧ some k_ ≠ (s_.2.1 : Value).ownBlock ∧ some k_ ≠ (s_.2.2 : Value).ownBlock) (.slice Ao49 x299002_1.length co49) x299002_1) ∧ (w'.heap[gb294]? = some (.cells #[.int .i64 a0_0, .slice (some ad299) l0_1.length c0_1, .slice (some ad302) l0_2.length c0_2] 29 (0, 0))) ∧ (w'.heap[gb295]? = some (.cells #[.int .i64 x296000_1, .slice none 0 0, .slice none 0 0] 29 (0, 0))) ∧ (w'.heap[gb298]? = some (.cells #[.int .i64 a0_0, .slice Ao48 x299001_1.length co48, .slice Ao49 x299002_1.length co49] 29 (0, 0))) ∧ (Below w.heap.size w w')) ?_ ?_
              rotate_left
              ·intro hCont
               refine two_ (i := 8) (j := 14) (Ni := some 72) (Nj := some 78) #[true, true, true, true, true, true, true, true, true, false, false, true, true, true, false, false, false, false, false, false] #[true, true, true, true, true, true, true, true, false, false, false, true, true, true, true, false, false, false, false, false] rfl rfl rfl rfl (two_of HT_.out (by kernel_rfl)) (by decide) (by decide) (fun K hK => ?_) (fun K hK => ?_)
               ·skip
                refine goes_ Try.func97 (by kernel_rfl) rfl #[.int .i64 t296, .int .i64 (wrap64 ((wrap64 (t300 + t305)) + a1))] (by rfl) rfl rfl ZA ?_
                with_reducible refine (impl_field_mod.calls t296 (wrap64 ((wrap64 (t300 + t305)) + a1)) t306 _ A42.out).mono ?_
                rintro e w' ⟨rfl, ⟨nd, rfl⟩⟩
                refine ⟨_, rfl, ?_⟩
                refine hK.out _ _ ⟨(blk_cell BK298.out 0).trans rfl, (blk_cell BK298.out 1).trans rfl, (blk_cell BK298.out 2).trans rfl⟩ (fun hHeld => ?_)
                clear hK K
                refine norm_ (a' := ?_) ?_ ?_
                rotate_left
                ·show Act.put _ (some 72) _ = _
                 simp only [Act.put, List.setIfInBounds_toArray, List.set_cons_zero, List.set_cons_succ, i64_w, i32_w]
                 rfl
                refine two_ (i := 9) (j := 14) (Ni := some 73) (Nj := some 78) #[true, true, true, true, true, true, true, true, true, true, false, true, true, true, false, false, false, false, false, false] #[true, true, true, true, true, true, true, true, true, false, false, true, true, true, true, false, false, false, false, false] rfl rfl rfl rfl (two_of HT_.out (by kernel_rfl)) (by decide) (by decide) (fun K hK => ?_) (fun K hK => ?_)
                ·skip
                 refine Kd.R_lit_step (Kd.int .i64) _ 2 ?hg (N := 73) ?hd (xs := ([t306] : List Int)) (inner := [.int .i64 t306]) (ok := fun _ => True) (okp := fun _ => True) ?hr ?hp (fun _ hk => hk) trivial (Below.refl _ _) (Nat.le_refl _) (by simp) ?_; (case hd => rfl); (case hg => rfl); (case hr => first | (go_simp; done) | (go_simp; rfl)); (case hp => exact (Reps.one (show Kd.M (Kd.int .i64) _ _ _ t306 [.int .i64 t306] from rfl) (Reps.none _ _)))
                 intro v308 w51 ho52 hb hg_ hnew_
                 clear hg_ hnew_
                 (first | rw [← Ny307.out] at ho52 | (simp only [Int.reduceToNat] at ho52; rw [← Ny307.out] at ho52))
                 have n0_ := Aside0.mk (Kd.R_elder' (ZR HO_299001) (Kd.R_base ho52) hb)
                 have n1_ := Aside0.mk (Kd.R_elder' (ZR HO_299002) (Kd.R_base ho52) hb)
                 have n2_ := Aside0.mk (Kd.R_lower (Kd.R_new' (Kd.R_new' ho52 (Kd.R_lt (ZR HO_299001))) (Kd.R_lt (ZR HO_299002))) (below_size ZB))
                 have n3_ := ZL BK294 hb
                 have n4_ := ZL BK295 hb
                 have n5_ := ZL BK298 hb
                 have n6_ := Aside0.mk (below_step ZB hb)
                 clear HO_299001
                 clear HO_299002
                 clear BK294
                 clear BK295
                 clear BK298
                 clear HB
                 have HO_299001 := n0_
                 have HO_299002 := n1_
                 have HO309 := n2_
                 have BK294 := n3_
                 have BK295 := n4_
                 have BK298 := n5_
                 have HB := n6_
                 clear n0_ n1_ n2_ n3_ n4_ n5_ n6_
                 clear hb ho52
                 obtain ⟨Ao54, co54, eo54⟩ := Kd.R_slice HO309.out
                 (first | subst eo54 | (injection eo54 with f1_ f2_ f3_; have f4_ := f1_.symm; have f5_ := f3_.symm; clear f1_ f2_ f3_; subst f4_; subst f5_))
                 refine hK.out _ _ ⟨(blk_cell BK298.out 0).trans rfl, (blk_cell BK298.out 1).trans rfl, (blk_cell BK298.out 2).trans rfl⟩ (fun hHeld => ?_)
                 clear hK K
                 refine norm_ (a' := ?_) ?_ ?_
                 rotate_left
                 ·show Act.put _ (some 73) _ = _
                  simp only [Act.put, List.setIfInBounds_toArray, List.set_cons_zero, List.set_cons_succ, i64_w, i32_w]
                  rfl
                 refine two_ (i := 10) (j := 14) (Ni := some 74) (Nj := some 78) #[true, true, true, true, true, true, true, true, true, true, true, true, true, true, false, false, false, false, false, false] #[true, true, true, true, true, true, true, true, true, true, false, true, true, true, true, false, false, false, false, false] rfl rfl rfl rfl (two_of HT_.out (by kernel_rfl)) (by decide) (by decide) (fun K hK => ?_) (fun K hK => ?_)
                 ·skip
                  refine Kd.R_append_rows_step (Kd.int .i64) (w0 := w) w.heap.size (by rfl) (.tmp 65) (.tmp 73) 22 2 (.int .i64 0) 8 rfl Try.underlying22 info2 rfl (by decide) (by omega) (.slice Ao48 x299001_1.length co48) x299001_1 y307 _ _ _ (fun k_ => some k_ ≠ (.slice Ao49 x299002_1.length co49 : Value).ownBlock ∧ some k_ ≠ (.slice Ao54 y307.length co54 : Value).ownBlock) (fun _ => False) rfl rfl ?aO ?aR (fun _ _ h => h) (fun _ h => h.elim) ?aF ?aB ?aS ?aL ?_
                  (case aR => repeat (first | exact (Kd.R_reads' HO309.out).2.2 | (with_reducible refine Kd.C_alloc ?_ _) | (with_reducible refine Kd.C_drewN ?_ _) | (with_reducible refine Kd.C_drew ?_)))
                  (case aB => exact ZB)
                  (case aF => exact (fun k_ hk => ⟨Kd.fresh' (Kd.R_lt (ZR HO_299002)) k_ hk, Kd.fresh' (Kd.R_lt (ZR HO309)) k_ hk⟩))
                  (case aO => exact (ZR HO_299001))
                  (case aS => exact (below_size ZB))
                  (case aL => have := LMc43.out; omega)
                  intro v311 w53 ho hb hg hat
                  rw [← Ny310.out] at ho
                  have n0_ := Aside0.mk (Kd.R_after (ok := (fun k_ => some k_ ≠ (.slice Ao54 y307.length co54 : Value).ownBlock)) (by refine ZQ ?_; exact Kd.R_mono HO_299002.out (fun _ hk => (And.intro (hk.2) (hk.1)))) hg hat)
                  have n1_ := Aside0.mk (blk_grown (ZK BK294) hg (Kd.R_ne HO_299001.out BK294.out (by decide)))
                  have n2_ := Aside0.mk (blk_grown (ZK BK295) hg (Kd.R_ne HO_299001.out BK295.out (by decide)))
                  have n3_ := Aside0.mk (blk_grown (ZK BK298) hg (Kd.R_ne HO_299001.out BK298.out (by decide)))
                  have n4_ := Aside0.mk (Kd.R_after (ok := (fun k_ => some k_ ≠ (.slice Ao49 x299002_1.length co49 : Value).ownBlock)) (by refine ZQ ?_; exact Kd.R_mono HO309.out (fun _ hk => (And.intro (hk.2) (hk.1.2)))) hg hat)
                  have n5_ := Aside0.mk (hb)
                  have n6_ := Aside0.mk (ho)
                  clear HO_299002
                  clear BK294
                  clear BK295
                  clear BK298
                  clear HO309
                  clear HB
                  clear HO_299001
                  have HO_299002 := n0_
                  have BK294 := n1_
                  have BK295 := n2_
                  have BK298 := n3_
                  have HO309 := n4_
                  have HB := n5_
                  have HO312 := n6_
                  clear n0_ n1_ n2_ n3_ n4_ n5_ n6_
                  clear ho hb hg hat
                  refine hK.out _ _ ⟨(blk_cell BK298.out 0).trans rfl, (blk_cell BK298.out 1).trans rfl, (blk_cell BK298.out 2).trans rfl⟩ (fun hHeld => ?_)
                  clear hK K
                  refine norm_ (a' := ?_) ?_ ?_
                  rotate_left
                  ·show Act.put _ (some 74) _ = _
                   simp only [Act.put, List.setIfInBounds_toArray, List.set_cons_zero, List.set_cons_succ, i64_w, i32_w]
                   rfl
                  refine Zpt 16 (some 80) (h := ?_)
                  refine one_ (i := 14) (N := some 78) #[true, true, true, true, true, true, true, true, true, true, true, true, true, true, true, false, true, false, false, false] rfl rfl (one_of HT_.out (by kernel_rfl)) (by decide) (fun K hK => ?_)
                  refine Kd.R_lit_step (Kd.int .i64) _ 2 ?hg (N := 78) ?hd (xs := ([t303] : List Int)) (inner := [.int .i64 t303]) (ok := fun _ => True) (okp := fun _ => True) ?hr ?hp (fun _ hk => hk) trivial (Below.refl _ _) (Nat.le_refl _) (by simp) ?_; (case hd => rfl); (case hg => rfl); (case hr => first | (go_simp; done) | (go_simp; rfl)); (case hp => exact (Reps.one (show Kd.M (Kd.int .i64) _ _ _ t303 [.int .i64 t303] from rfl) (Reps.none _ _)))
                  intro v314 w55 ho56 hb hg_ hnew_
                  clear hg_ hnew_
                  (first | rw [← Ny313.out] at ho56 | (simp only [Int.reduceToNat] at ho56; rw [← Ny313.out] at ho56))
                  have n0_ := Aside0.mk (Kd.R_elder' (ZR HO_299002) (Kd.R_base ho56) hb)
                  have n1_ := Aside0.mk (Kd.R_elder' (ZR HO309) (Kd.R_base ho56) hb)
                  have n2_ := Aside0.mk (Kd.R_elder' (ZR HO312) (Kd.R_base ho56) hb)
                  have n3_ := Aside0.mk (Kd.R_lower (Kd.R_new' (Kd.R_new' (Kd.R_new' ho56 (Kd.R_lt (ZR HO_299002))) (Kd.R_lt (ZR HO309))) (Kd.R_lt (ZR HO312))) (below_size ZB))
                  have n4_ := ZL BK294 hb
                  have n5_ := ZL BK295 hb
                  have n6_ := ZL BK298 hb
                  have n7_ := Aside0.mk (below_step ZB hb)
                  clear HO_299002
                  clear HO309
                  clear HO312
                  clear BK294
                  clear BK295
                  clear BK298
                  clear HB
                  have HO_299002 := n0_
                  have HO309 := n1_
                  have HO312 := n2_
                  have HO315 := n3_
                  have BK294 := n4_
                  have BK295 := n5_
                  have BK298 := n6_
                  have HB := n7_
                  clear n0_ n1_ n2_ n3_ n4_ n5_ n6_ n7_
                  clear hb ho56
                  refine hK.out _ _ ⟨(blk_cell BK298.out 0).trans rfl, (blk_cell BK298.out 1).trans rfl, (blk_cell BK298.out 2).trans rfl⟩ (fun hHeld => ?_)
                  clear hK K
                  refine norm_ (a' := ?_) ?_ ?_
                  rotate_left
                  ·show Act.put _ (some 78) _ = _
                   simp only [Act.put, List.setIfInBounds_toArray, List.set_cons_zero, List.set_cons_succ, i64_w, i32_w]
                   rfl
                  exact norm_ (by simp only [putAll, Act.put, List.setIfInBounds_toArray, List.set_cons_zero, List.set_cons_succ]) (hCont (.slice Ao54 y307.length co54, v311, v314) _ ⟨hHeld, (by refine ZQ ?_; exact Kd.R_mono HO309.out (fun _ hk => (And.intro (hk.1.2) ((And.intro (hk.2) (hk.1.1)))))), (by refine ZQ ?_; exact Kd.R_mono HO312.out (fun _ hk => (And.intro (hk.1.2) ((And.intro (hk.2) (hk.1.1)))))), (by refine ZQ ?_; exact Kd.R_mono HO315.out (fun _ hk => (And.intro (hk.1.2) ((And.intro (hk.2) (hk.1.1.2)))))), (by refine ZQ ?_; exact Kd.R_mono HO_299002.out (fun _ hk => (And.intro (hk.1.1) ((And.intro (hk.1.2) (hk.2)))))), (ZK BK294), (ZK BK295), (ZK BK298), ZB⟩)
                 ·skip
                  refine Kd.R_lit_step (Kd.int .i64) _ 2 ?hg (N := 78) ?hd (xs := ([t303] : List Int)) (inner := [.int .i64 t303]) (ok := fun _ => True) (okp := fun _ => True) ?hr ?hp (fun _ hk => hk) trivial (Below.refl _ _) (Nat.le_refl _) (by simp) ?_; (case hd => rfl); (case hg => rfl); (case hr => first | (go_simp; done) | (go_simp; rfl)); (case hp => exact (Reps.one (show Kd.M (Kd.int .i64) _ _ _ t303 [.int .i64 t303] from rfl) (Reps.none _ _)))
                  intro v314 w53 ho54 hb hg_ hnew_
                  clear hg_ hnew_
                  (first | rw [← Ny313.out] at ho54 | (simp only [Int.reduceToNat] at ho54; rw [← Ny313.out] at ho54))
                  have n0_ := Aside0.mk (Kd.R_elder' (ZR HO_299001) (Kd.R_base ho54) hb)
                  have n1_ := Aside0.mk (Kd.R_elder' (ZR HO_299002) (Kd.R_base ho54) hb)
                  have n2_ := Aside0.mk (Kd.R_elder' (ZR HO309) (Kd.R_base ho54) hb)
                  have n3_ := Aside0.mk (Kd.R_lower (Kd.R_new' (Kd.R_new' (Kd.R_new' ho54 (Kd.R_lt (ZR HO_299001))) (Kd.R_lt (ZR HO_299002))) (Kd.R_lt (ZR HO309))) (below_size ZB))
                  have n4_ := ZL BK294 hb
                  have n5_ := ZL BK295 hb
                  have n6_ := ZL BK298 hb
                  have n7_ := Aside0.mk (below_step ZB hb)
                  clear HO_299001
                  clear HO_299002
                  clear HO309
                  clear BK294
                  clear BK295
                  clear BK298
                  clear HB
                  have HO_299001 := n0_
                  have HO_299002 := n1_
                  have HO309 := n2_
                  have HO315 := n3_
                  have BK294 := n4_
                  have BK295 := n5_
                  have BK298 := n6_
                  have HB := n7_
                  clear n0_ n1_ n2_ n3_ n4_ n5_ n6_ n7_
                  clear hb ho54
                  obtain ⟨Ao56, co56, eo56⟩ := Kd.R_slice HO309.out
                  (first | subst eo56 | (injection eo56 with f1_ f2_ f3_; have f4_ := f1_.symm; have f5_ := f3_.symm; clear f1_ f2_ f3_; subst f4_; subst f5_))
                  refine hK.out _ _ ⟨(blk_cell BK298.out 0).trans rfl, (blk_cell BK298.out 1).trans rfl, (blk_cell BK298.out 2).trans rfl⟩ (fun hHeld => ?_)
                  clear hK K
                  refine norm_ (a' := ?_) ?_ ?_
                  rotate_left
                  ·show Act.put _ (some 78) _ = _
                   simp only [Act.put, List.setIfInBounds_toArray, List.set_cons_zero, List.set_cons_succ, i64_w, i32_w]
                   rfl
                  refine one_ (i := 10) (N := some 74) #[true, true, true, true, true, true, true, true, true, true, true, true, true, true, true, false, false, false, false, false] rfl rfl (one_of HT_.out (by kernel_rfl)) (by decide) (fun K hK => ?_)
                  refine Kd.R_append_rows_step (Kd.int .i64) (w0 := w) w.heap.size (by rfl) (.tmp 65) (.tmp 73) 22 2 (.int .i64 0) 8 rfl Try.underlying22 info2 rfl (by decide) (by omega) (.slice Ao48 x299001_1.length co48) x299001_1 y307 _ _ _ (fun k_ => some k_ ≠ (.slice Ao49 x299002_1.length co49 : Value).ownBlock ∧ some k_ ≠ (.slice Ao56 y307.length co56 : Value).ownBlock ∧ some k_ ≠ (v314 : Value).ownBlock) (fun _ => False) rfl rfl ?aO ?aR (fun _ _ h => h) (fun _ h => h.elim) ?aF ?aB ?aS ?aL ?_
                  (case aR => repeat (first | exact (Kd.R_reads' HO309.out).2.2 | (with_reducible refine Kd.C_alloc ?_ _) | (with_reducible refine Kd.C_drewN ?_ _) | (with_reducible refine Kd.C_drew ?_)))
                  (case aB => exact ZB)
                  (case aF => exact (fun k_ hk => ⟨Kd.fresh' (Kd.R_lt (ZR HO_299002)) k_ hk, Kd.fresh' (Kd.R_lt (ZR HO309)) k_ hk, Kd.fresh' (Kd.R_lt (ZR HO315)) k_ hk⟩))
                  (case aO => exact (by refine ZQ ?_; exact Kd.R_mono HO_299001.out (fun _ hk => (And.intro (hk.1.1) ((And.intro (hk.1.2) (hk.2)))))))
                  (case aS => exact (below_size ZB))
                  (case aL => have := LMc43.out; omega)
                  intro v311 w55 ho hb hg hat
                  rw [← Ny310.out] at ho
                  have n0_ := Aside0.mk (Kd.R_after (ok := (fun k_ => some k_ ≠ (.slice Ao56 y307.length co56 : Value).ownBlock ∧ some k_ ≠ (v314 : Value).ownBlock)) (by refine ZQ ?_; exact Kd.R_mono HO_299002.out (fun _ hk => (And.intro ((And.intro (hk.1.2) (hk.2))) (hk.1.1)))) hg hat)
                  have n1_ := Aside0.mk (blk_grown (ZK BK294) hg (Kd.R_ne HO_299001.out BK294.out (by decide)))
                  have n2_ := Aside0.mk (blk_grown (ZK BK295) hg (Kd.R_ne HO_299001.out BK295.out (by decide)))
                  have n3_ := Aside0.mk (blk_grown (ZK BK298) hg (Kd.R_ne HO_299001.out BK298.out (by decide)))
                  have n4_ := Aside0.mk (Kd.R_after (ok := (fun k_ => some k_ ≠ (.slice Ao49 x299002_1.length co49 : Value).ownBlock ∧ some k_ ≠ (v314 : Value).ownBlock)) (by refine ZQ ?_; exact Kd.R_mono HO309.out (fun _ hk => (And.intro ((And.intro (hk.1.2) (hk.2))) (hk.1.1.2)))) hg hat)
                  have n5_ := Aside0.mk (Kd.R_after (ok := (fun k_ => some k_ ≠ (.slice Ao49 x299002_1.length co49 : Value).ownBlock ∧ some k_ ≠ (.slice Ao56 y307.length co56 : Value).ownBlock)) (by refine ZQ ?_; exact Kd.R_mono HO315.out (fun _ hk => (And.intro ((And.intro (hk.1.2) (hk.2))) (hk.1.1.2)))) hg hat)
                  have n6_ := Aside0.mk (hb)
                  have n7_ := Aside0.mk (ho)
                  clear HO_299002
                  clear BK294
                  clear BK295
                  clear BK298
                  clear HO309
                  clear HO315
                  clear HB
                  clear HO_299001
                  have HO_299002 := n0_
                  have BK294 := n1_
                  have BK295 := n2_
                  have BK298 := n3_
                  have HO309 := n4_
                  have HO315 := n5_
                  have HB := n6_
                  have HO312 := n7_
                  clear n0_ n1_ n2_ n3_ n4_ n5_ n6_ n7_
                  clear ho hb hg hat
                  refine hK.out _ _ ⟨(blk_cell BK298.out 0).trans rfl, (blk_cell BK298.out 1).trans rfl, (blk_cell BK298.out 2).trans rfl⟩ (fun hHeld => ?_)
                  clear hK K
                  refine norm_ (a' := ?_) ?_ ?_
                  rotate_left
                  ·show Act.put _ (some 74) _ = _
                   simp only [Act.put, List.setIfInBounds_toArray, List.set_cons_zero, List.set_cons_succ, i64_w, i32_w]
                   rfl
                  refine Zpt 16 (some 80) (h := ?_)
                  exact norm_ (by simp only [putAll, Act.put, List.setIfInBounds_toArray, List.set_cons_zero, List.set_cons_succ]) (hCont (.slice Ao56 y307.length co56, v311, v314) _ ⟨hHeld, (by refine ZQ ?_; exact Kd.R_mono HO309.out (fun _ hk => (And.intro (hk.2) ((And.intro (hk.1.2) (hk.1.1)))))), (by refine ZQ ?_; exact Kd.R_mono HO312.out (fun _ hk => (And.intro (hk.2.1) ((And.intro (hk.2.2) (hk.1)))))), (by refine ZQ ?_; exact Kd.R_mono HO315.out (fun _ hk => (And.intro (hk.1.2) ((And.intro (hk.2) (hk.1.1)))))), (by refine ZQ ?_; exact Kd.R_mono HO_299002.out (fun _ hk => (And.intro (hk.1.1) ((And.intro (hk.2) (hk.1.2)))))), (ZK BK294), (ZK BK295), (ZK BK298), ZB⟩)
                ·skip
                 refine Kd.R_lit_step (Kd.int .i64) _ 2 ?hg (N := 78) ?hd (xs := ([t303] : List Int)) (inner := [.int .i64 t303]) (ok := fun _ => True) (okp := fun _ => True) ?hr ?hp (fun _ hk => hk) trivial (Below.refl _ _) (Nat.le_refl _) (by simp) ?_; (case hd => rfl); (case hg => rfl); (case hr => first | (go_simp; done) | (go_simp; rfl)); (case hp => exact (Reps.one (show Kd.M (Kd.int .i64) _ _ _ t303 [.int .i64 t303] from rfl) (Reps.none _ _)))
                 intro v314 w51 ho52 hb hg_ hnew_
                 clear hg_ hnew_
                 (first | rw [← Ny313.out] at ho52 | (simp only [Int.reduceToNat] at ho52; rw [← Ny313.out] at ho52))
                 have n0_ := Aside0.mk (Kd.R_elder' (ZR HO_299001) (Kd.R_base ho52) hb)
                 have n1_ := Aside0.mk (Kd.R_elder' (ZR HO_299002) (Kd.R_base ho52) hb)
                 have n2_ := Aside0.mk (Kd.R_lower (Kd.R_new' (Kd.R_new' ho52 (Kd.R_lt (ZR HO_299001))) (Kd.R_lt (ZR HO_299002))) (below_size ZB))
                 have n3_ := ZL BK294 hb
                 have n4_ := ZL BK295 hb
                 have n5_ := ZL BK298 hb
                 have n6_ := Aside0.mk (below_step ZB hb)
                 clear HO_299001
                 clear HO_299002
                 clear BK294
                 clear BK295
                 clear BK298
                 clear HB
                 have HO_299001 := n0_
                 have HO_299002 := n1_
                 have HO315 := n2_
                 have BK294 := n3_
                 have BK295 := n4_
                 have BK298 := n5_
                 have HB := n6_
                 clear n0_ n1_ n2_ n3_ n4_ n5_ n6_
                 clear hb ho52
                 refine hK.out _ _ ⟨(blk_cell BK298.out 0).trans rfl, (blk_cell BK298.out 1).trans rfl, (blk_cell BK298.out 2).trans rfl⟩ (fun hHeld => ?_)
                 clear hK K
                 refine norm_ (a' := ?_) ?_ ?_
                 rotate_left
                 ·show Act.put _ (some 78) _ = _
                  simp only [Act.put, List.setIfInBounds_toArray, List.set_cons_zero, List.set_cons_succ, i64_w, i32_w]
                  rfl
                 refine one_ (i := 9) (N := some 73) #[true, true, true, true, true, true, true, true, true, true, false, true, true, true, true, false, false, false, false, false] rfl rfl (one_of HT_.out (by kernel_rfl)) (by decide) (fun K hK => ?_)
                 refine Kd.R_lit_step (Kd.int .i64) _ 2 ?hg (N := 73) ?hd (xs := ([t306] : List Int)) (inner := [.int .i64 t306]) (ok := fun _ => True) (okp := fun _ => True) ?hr ?hp (fun _ hk => hk) trivial (Below.refl _ _) (Nat.le_refl _) (by simp) ?_; (case hd => rfl); (case hg => rfl); (case hr => first | (go_simp; done) | (go_simp; rfl)); (case hp => exact (Reps.one (show Kd.M (Kd.int .i64) _ _ _ t306 [.int .i64 t306] from rfl) (Reps.none _ _)))
                 intro v308 w53 ho54 hb hg_ hnew_
                 clear hg_ hnew_
                 (first | rw [← Ny307.out] at ho54 | (simp only [Int.reduceToNat] at ho54; rw [← Ny307.out] at ho54))
                 have n0_ := Aside0.mk (Kd.R_elder' (ZR HO_299001) (Kd.R_base ho54) hb)
                 have n1_ := Aside0.mk (Kd.R_elder' (ZR HO_299002) (Kd.R_base ho54) hb)
                 have n2_ := Aside0.mk (Kd.R_elder' (ZR HO315) (Kd.R_base ho54) hb)
                 have n3_ := Aside0.mk (Kd.R_lower (Kd.R_new' (Kd.R_new' (Kd.R_new' ho54 (Kd.R_lt (ZR HO_299001))) (Kd.R_lt (ZR HO_299002))) (Kd.R_lt (ZR HO315))) (below_size ZB))
                 have n4_ := ZL BK294 hb
                 have n5_ := ZL BK295 hb
                 have n6_ := ZL BK298 hb
                 have n7_ := Aside0.mk (below_step ZB hb)
                 clear HO_299001
                 clear HO_299002
                 clear HO315
                 clear BK294
                 clear BK295
                 clear BK298
                 clear HB
                 have HO_299001 := n0_
                 have HO_299002 := n1_
                 have HO315 := n2_
                 have HO309 := n3_
                 have BK294 := n4_
                 have BK295 := n5_
                 have BK298 := n6_
                 have HB := n7_
                 clear n0_ n1_ n2_ n3_ n4_ n5_ n6_ n7_
                 clear hb ho54
                 obtain ⟨Ao56, co56, eo56⟩ := Kd.R_slice HO309.out
                 (first | subst eo56 | (injection eo56 with f1_ f2_ f3_; have f4_ := f1_.symm; have f5_ := f3_.symm; clear f1_ f2_ f3_; subst f4_; subst f5_))
                 refine hK.out _ _ ⟨(blk_cell BK298.out 0).trans rfl, (blk_cell BK298.out 1).trans rfl, (blk_cell BK298.out 2).trans rfl⟩ (fun hHeld => ?_)
                 clear hK K
                 refine norm_ (a' := ?_) ?_ ?_
                 rotate_left
                 ·show Act.put _ (some 73) _ = _
                  simp only [Act.put, List.setIfInBounds_toArray, List.set_cons_zero, List.set_cons_succ, i64_w, i32_w]
                  rfl
                 refine one_ (i := 10) (N := some 74) #[true, true, true, true, true, true, true, true, true, true, true, true, true, true, true, false, false, false, false, false] rfl rfl (one_of HT_.out (by kernel_rfl)) (by decide) (fun K hK => ?_)
                 refine Kd.R_append_rows_step (Kd.int .i64) (w0 := w) w.heap.size (by rfl) (.tmp 65) (.tmp 73) 22 2 (.int .i64 0) 8 rfl Try.underlying22 info2 rfl (by decide) (by omega) (.slice Ao48 x299001_1.length co48) x299001_1 y307 _ _ _ (fun k_ => some k_ ≠ (.slice Ao49 x299002_1.length co49 : Value).ownBlock ∧ some k_ ≠ (v314 : Value).ownBlock ∧ some k_ ≠ (.slice Ao56 y307.length co56 : Value).ownBlock) (fun _ => False) rfl rfl ?aO ?aR (fun _ _ h => h) (fun _ h => h.elim) ?aF ?aB ?aS ?aL ?_
                 (case aR => repeat (first | exact (Kd.R_reads' HO309.out).2.2 | (with_reducible refine Kd.C_alloc ?_ _) | (with_reducible refine Kd.C_drewN ?_ _) | (with_reducible refine Kd.C_drew ?_)))
                 (case aB => exact ZB)
                 (case aF => exact (fun k_ hk => ⟨Kd.fresh' (Kd.R_lt (ZR HO_299002)) k_ hk, Kd.fresh' (Kd.R_lt (ZR HO315)) k_ hk, Kd.fresh' (Kd.R_lt (ZR HO309)) k_ hk⟩))
                 (case aO => exact (by refine ZQ ?_; exact Kd.R_mono HO_299001.out (fun _ hk => (And.intro (hk.1.1) ((And.intro (hk.1.2) (hk.2)))))))
                 (case aS => exact (below_size ZB))
                 (case aL => have := LMc43.out; omega)
                 intro v311 w55 ho hb hg hat
                 rw [← Ny310.out] at ho
                 have n0_ := Aside0.mk (Kd.R_after (ok := (fun k_ => some k_ ≠ (v314 : Value).ownBlock ∧ some k_ ≠ (.slice Ao56 y307.length co56 : Value).ownBlock)) (by refine ZQ ?_; exact Kd.R_mono HO_299002.out (fun _ hk => (And.intro ((And.intro (hk.1.2) (hk.2))) (hk.1.1)))) hg hat)
                 have n1_ := Aside0.mk (blk_grown (ZK BK294) hg (Kd.R_ne HO_299001.out BK294.out (by decide)))
                 have n2_ := Aside0.mk (blk_grown (ZK BK295) hg (Kd.R_ne HO_299001.out BK295.out (by decide)))
                 have n3_ := Aside0.mk (blk_grown (ZK BK298) hg (Kd.R_ne HO_299001.out BK298.out (by decide)))
                 have n4_ := Aside0.mk (Kd.R_after (ok := (fun k_ => some k_ ≠ (.slice Ao49 x299002_1.length co49 : Value).ownBlock ∧ some k_ ≠ (.slice Ao56 y307.length co56 : Value).ownBlock)) (by refine ZQ ?_; exact Kd.R_mono HO315.out (fun _ hk => (And.intro ((And.intro (hk.1.2) (hk.2))) (hk.1.1.2)))) hg hat)
                 have n5_ := Aside0.mk (Kd.R_after (ok := (fun k_ => some k_ ≠ (.slice Ao49 x299002_1.length co49 : Value).ownBlock ∧ some k_ ≠ (v314 : Value).ownBlock)) (by refine ZQ ?_; exact Kd.R_mono HO309.out (fun _ hk => (And.intro ((And.intro (hk.1.2) (hk.2))) (hk.1.1.2)))) hg hat)
                 have n6_ := Aside0.mk (hb)
                 have n7_ := Aside0.mk (ho)
                 clear HO_299002
                 clear BK294
                 clear BK295
                 clear BK298
                 clear HO315
                 clear HO309
                 clear HB
                 clear HO_299001
                 have HO_299002 := n0_
                 have BK294 := n1_
                 have BK295 := n2_
                 have BK298 := n3_
                 have HO315 := n4_
                 have HO309 := n5_
                 have HB := n6_
                 have HO312 := n7_
                 clear n0_ n1_ n2_ n3_ n4_ n5_ n6_ n7_
                 clear ho hb hg hat
                 refine hK.out _ _ ⟨(blk_cell BK298.out 0).trans rfl, (blk_cell BK298.out 1).trans rfl, (blk_cell BK298.out 2).trans rfl⟩ (fun hHeld => ?_)
                 clear hK K
                 refine norm_ (a' := ?_) ?_ ?_
                 rotate_left
                 ·show Act.put _ (some 74) _ = _
                  simp only [Act.put, List.setIfInBounds_toArray, List.set_cons_zero, List.set_cons_succ, i64_w, i32_w]
                  rfl
                 refine Zpt 16 (some 80) (h := ?_)
                 exact norm_ (by simp only [putAll, Act.put, List.setIfInBounds_toArray, List.set_cons_zero, List.set_cons_succ]) (hCont (.slice Ao56 y307.length co56, v311, v314) _ ⟨hHeld, (by refine ZQ ?_; exact Kd.R_mono HO309.out (fun _ hk => (And.intro (hk.2) ((And.intro (hk.1.2) (hk.1.1)))))), (by refine ZQ ?_; exact Kd.R_mono HO312.out (fun _ hk => (And.intro (hk.2.2) ((And.intro (hk.2.1) (hk.1)))))), (by refine ZQ ?_; exact Kd.R_mono HO315.out (fun _ hk => (And.intro (hk.1.2) ((And.intro (hk.2) (hk.1.1)))))), (by refine ZQ ?_; exact Kd.R_mono HO_299002.out (fun _ hk => (And.intro (hk.1.2) ((And.intro (hk.2) (hk.1.1)))))), (ZK BK294), (ZK BK295), (ZK BK298), ZB⟩)
               ·skip
                refine Kd.R_lit_step (Kd.int .i64) _ 2 ?hg (N := 78) ?hd (xs := ([t303] : List Int)) (inner := [.int .i64 t303]) (ok := fun _ => True) (okp := fun _ => True) ?hr ?hp (fun _ hk => hk) trivial (Below.refl _ _) (Nat.le_refl _) (by simp) ?_; (case hd => rfl); (case hg => rfl); (case hr => first | (go_simp; done) | (go_simp; rfl)); (case hp => exact (Reps.one (show Kd.M (Kd.int .i64) _ _ _ t303 [.int .i64 t303] from rfl) (Reps.none _ _)))
                intro v314 w51 ho52 hb hg_ hnew_
                clear hg_ hnew_
                (first | rw [← Ny313.out] at ho52 | (simp only [Int.reduceToNat] at ho52; rw [← Ny313.out] at ho52))
                have n0_ := Aside0.mk (Kd.R_elder' (ZR HO_299001) (Kd.R_base ho52) hb)
                have n1_ := Aside0.mk (Kd.R_elder' (ZR HO_299002) (Kd.R_base ho52) hb)
                have n2_ := Aside0.mk (Kd.R_lower (Kd.R_new' (Kd.R_new' ho52 (Kd.R_lt (ZR HO_299001))) (Kd.R_lt (ZR HO_299002))) (below_size ZB))
                have n3_ := ZL BK294 hb
                have n4_ := ZL BK295 hb
                have n5_ := ZL BK298 hb
                have n6_ := Aside0.mk (below_step ZB hb)
                clear HO_299001
                clear HO_299002
                clear BK294
                clear BK295
                clear BK298
                clear HB
                have HO_299001 := n0_
                have HO_299002 := n1_
                have HO315 := n2_
                have BK294 := n3_
                have BK295 := n4_
                have BK298 := n5_
                have HB := n6_
                clear n0_ n1_ n2_ n3_ n4_ n5_ n6_
                clear hb ho52
                refine hK.out _ _ ⟨(blk_cell BK298.out 0).trans rfl, (blk_cell BK298.out 1).trans rfl, (blk_cell BK298.out 2).trans rfl⟩ (fun hHeld => ?_)
                clear hK K
                refine norm_ (a' := ?_) ?_ ?_
                rotate_left
                ·show Act.put _ (some 78) _ = _
                 simp only [Act.put, List.setIfInBounds_toArray, List.set_cons_zero, List.set_cons_succ, i64_w, i32_w]
                 rfl
                refine one_ (i := 8) (N := some 72) #[true, true, true, true, true, true, true, true, true, false, false, true, true, true, true, false, false, false, false, false] rfl rfl (one_of HT_.out (by kernel_rfl)) (by decide) (fun K hK => ?_)
                refine goes_ Try.func97 (by kernel_rfl) rfl #[.int .i64 t296, .int .i64 (wrap64 ((wrap64 (t300 + t305)) + a1))] (by rfl) rfl rfl ZA ?_
                with_reducible refine (impl_field_mod.calls t296 (wrap64 ((wrap64 (t300 + t305)) + a1)) t306 _ A42.out).mono ?_
                rintro e w' ⟨rfl, ⟨nd, rfl⟩⟩
                refine ⟨_, rfl, ?_⟩
                refine hK.out _ _ ⟨(blk_cell BK298.out 0).trans rfl, (blk_cell BK298.out 1).trans rfl, (blk_cell BK298.out 2).trans rfl⟩ (fun hHeld => ?_)
                clear hK K
                refine norm_ (a' := ?_) ?_ ?_
                rotate_left
                ·show Act.put _ (some 72) _ = _
                 simp only [Act.put, List.setIfInBounds_toArray, List.set_cons_zero, List.set_cons_succ, i64_w, i32_w]
                 rfl
                refine one_ (i := 9) (N := some 73) #[true, true, true, true, true, true, true, true, true, true, false, true, true, true, true, false, false, false, false, false] rfl rfl (one_of HT_.out (by kernel_rfl)) (by decide) (fun K hK => ?_)
                refine Kd.R_lit_step (Kd.int .i64) _ 2 ?hg (N := 73) ?hd (xs := ([t306] : List Int)) (inner := [.int .i64 t306]) (ok := fun _ => True) (okp := fun _ => True) ?hr ?hp (fun _ hk => hk) trivial (Below.refl _ _) (Nat.le_refl _) (by simp) ?_; (case hd => rfl); (case hg => rfl); (case hr => first | (go_simp; done) | (go_simp; rfl)); (case hp => exact (Reps.one (show Kd.M (Kd.int .i64) _ _ _ t306 [.int .i64 t306] from rfl) (Reps.none _ _)))
                intro v308 w53 ho54 hb hg_ hnew_
                clear hg_ hnew_
                (first | rw [← Ny307.out] at ho54 | (simp only [Int.reduceToNat] at ho54; rw [← Ny307.out] at ho54))
                have n0_ := Aside0.mk (Kd.R_elder' (ZR HO_299001) (Kd.R_base ho54) hb)
                have n1_ := Aside0.mk (Kd.R_elder' (ZR HO_299002) (Kd.R_base ho54) hb)
                have n2_ := Aside0.mk (Kd.R_elder' (ZR HO315) (Kd.R_base ho54) hb)
                have n3_ := Aside0.mk (Kd.R_lower (Kd.R_new' (Kd.R_new' (Kd.R_new' ho54 (Kd.R_lt (ZR HO_299001))) (Kd.R_lt (ZR HO_299002))) (Kd.R_lt (ZR HO315))) (below_size ZB))
                have n4_ := ZL BK294 hb
                have n5_ := ZL BK295 hb
                have n6_ := ZL BK298 hb
                have n7_ := Aside0.mk (below_step ZB hb)
                clear HO_299001
                clear HO_299002
                clear HO315
                clear BK294
                clear BK295
                clear BK298
                clear HB
                have HO_299001 := n0_
                have HO_299002 := n1_
                have HO315 := n2_
                have HO309 := n3_
                have BK294 := n4_
                have BK295 := n5_
                have BK298 := n6_
                have HB := n7_
                clear n0_ n1_ n2_ n3_ n4_ n5_ n6_ n7_
                clear hb ho54
                obtain ⟨Ao56, co56, eo56⟩ := Kd.R_slice HO309.out
                (first | subst eo56 | (injection eo56 with f1_ f2_ f3_; have f4_ := f1_.symm; have f5_ := f3_.symm; clear f1_ f2_ f3_; subst f4_; subst f5_))
                refine hK.out _ _ ⟨(blk_cell BK298.out 0).trans rfl, (blk_cell BK298.out 1).trans rfl, (blk_cell BK298.out 2).trans rfl⟩ (fun hHeld => ?_)
                clear hK K
                refine norm_ (a' := ?_) ?_ ?_
                rotate_left
                ·show Act.put _ (some 73) _ = _
                 simp only [Act.put, List.setIfInBounds_toArray, List.set_cons_zero, List.set_cons_succ, i64_w, i32_w]
                 rfl
                refine one_ (i := 10) (N := some 74) #[true, true, true, true, true, true, true, true, true, true, true, true, true, true, true, false, false, false, false, false] rfl rfl (one_of HT_.out (by kernel_rfl)) (by decide) (fun K hK => ?_)
                refine Kd.R_append_rows_step (Kd.int .i64) (w0 := w) w.heap.size (by rfl) (.tmp 65) (.tmp 73) 22 2 (.int .i64 0) 8 rfl Try.underlying22 info2 rfl (by decide) (by omega) (.slice Ao48 x299001_1.length co48) x299001_1 y307 _ _ _ (fun k_ => some k_ ≠ (.slice Ao49 x299002_1.length co49 : Value).ownBlock ∧ some k_ ≠ (v314 : Value).ownBlock ∧ some k_ ≠ (.slice Ao56 y307.length co56 : Value).ownBlock) (fun _ => False) rfl rfl ?aO ?aR (fun _ _ h => h) (fun _ h => h.elim) ?aF ?aB ?aS ?aL ?_
                (case aR => repeat (first | exact (Kd.R_reads' HO309.out).2.2 | (with_reducible refine Kd.C_alloc ?_ _) | (with_reducible refine Kd.C_drewN ?_ _) | (with_reducible refine Kd.C_drew ?_)))
                (case aB => exact ZB)
                (case aF => exact (fun k_ hk => ⟨Kd.fresh' (Kd.R_lt (ZR HO_299002)) k_ hk, Kd.fresh' (Kd.R_lt (ZR HO315)) k_ hk, Kd.fresh' (Kd.R_lt (ZR HO309)) k_ hk⟩))
                (case aO => exact (by refine ZQ ?_; exact Kd.R_mono HO_299001.out (fun _ hk => (And.intro (hk.1.1) ((And.intro (hk.1.2) (hk.2)))))))
                (case aS => exact (below_size ZB))
                (case aL => have := LMc43.out; omega)
                intro v311 w55 ho hb hg hat
                rw [← Ny310.out] at ho
                have n0_ := Aside0.mk (Kd.R_after (ok := (fun k_ => some k_ ≠ (v314 : Value).ownBlock ∧ some k_ ≠ (.slice Ao56 y307.length co56 : Value).ownBlock)) (by refine ZQ ?_; exact Kd.R_mono HO_299002.out (fun _ hk => (And.intro ((And.intro (hk.1.2) (hk.2))) (hk.1.1)))) hg hat)
                have n1_ := Aside0.mk (blk_grown (ZK BK294) hg (Kd.R_ne HO_299001.out BK294.out (by decide)))
                have n2_ := Aside0.mk (blk_grown (ZK BK295) hg (Kd.R_ne HO_299001.out BK295.out (by decide)))
                have n3_ := Aside0.mk (blk_grown (ZK BK298) hg (Kd.R_ne HO_299001.out BK298.out (by decide)))
                have n4_ := Aside0.mk (Kd.R_after (ok := (fun k_ => some k_ ≠ (.slice Ao49 x299002_1.length co49 : Value).ownBlock ∧ some k_ ≠ (.slice Ao56 y307.length co56 : Value).ownBlock)) (by refine ZQ ?_; exact Kd.R_mono HO315.out (fun _ hk => (And.intro ((And.intro (hk.1.2) (hk.2))) (hk.1.1.2)))) hg hat)
                have n5_ := Aside0.mk (Kd.R_after (ok := (fun k_ => some k_ ≠ (.slice Ao49 x299002_1.length co49 : Value).ownBlock ∧ some k_ ≠ (v314 : Value).ownBlock)) (by refine ZQ ?_; exact Kd.R_mono HO309.out (fun _ hk => (And.intro ((And.intro (hk.1.2) (hk.2))) (hk.1.1.2)))) hg hat)
                have n6_ := Aside0.mk (hb)
                have n7_ := Aside0.mk (ho)
                clear HO_299002
                clear BK294
                clear BK295
                clear BK298
                clear HO315
                clear HO309
                clear HB
                clear HO_299001
                have HO_299002 := n0_
                have BK294 := n1_
                have BK295 := n2_
                have BK298 := n3_
                have HO315 := n4_
                have HO309 := n5_
                have HB := n6_
                have HO312 := n7_
                clear n0_ n1_ n2_ n3_ n4_ n5_ n6_ n7_
                clear ho hb hg hat
                refine hK.out _ _ ⟨(blk_cell BK298.out 0).trans rfl, (blk_cell BK298.out 1).trans rfl, (blk_cell BK298.out 2).trans rfl⟩ (fun hHeld => ?_)
                clear hK K
                refine norm_ (a' := ?_) ?_ ?_
                rotate_left
                ·show Act.put _ (some 74) _ = _
                 simp only [Act.put, List.setIfInBounds_toArray, List.set_cons_zero, List.set_cons_succ, i64_w, i32_w]
                 rfl
                refine Zpt 16 (some 80) (h := ?_)
                exact norm_ (by simp only [putAll, Act.put, List.setIfInBounds_toArray, List.set_cons_zero, List.set_cons_succ]) (hCont (.slice Ao56 y307.length co56, v311, v314) _ ⟨hHeld, (by refine ZQ ?_; exact Kd.R_mono HO309.out (fun _ hk => (And.intro (hk.2) ((And.intro (hk.1.2) (hk.1.1)))))), (by refine ZQ ?_; exact Kd.R_mono HO312.out (fun _ hk => (And.intro (hk.2.2) ((And.intro (hk.2.1) (hk.1)))))), (by refine ZQ ?_; exact Kd.R_mono HO315.out (fun _ hk => (And.intro (hk.1.2) ((And.intro (hk.2) (hk.1.1)))))), (by refine ZQ ?_; exact Kd.R_mono HO_299002.out (fun _ hk => (And.intro (hk.1.2) ((And.intro (hk.2) (hk.1.1)))))), (ZK BK294), (ZK BK295), (ZK BK298), ZB⟩)
              rintro ⟨v308, v311, v314⟩ w57 ⟨hS_, h0_, h1_, h2_, h3_, h4_, h5_, h6_, h7_⟩
              have n0_ : Aside0 (Kd.R (Kd.int .i64) 2 w57 w.heap.size (fun k_ => some k_ ≠ (v311 : Value).ownBlock ∧ some k_ ≠ (v314 : Value).ownBlock ∧ some k_ ≠ (.slice Ao49 x299002_1.length co49 : Value).ownBlock) v308 y307) := ⟨h0_⟩
              have n1_ : Aside0 (Kd.R (Kd.int .i64) 2 w57 w.heap.size (fun k_ => some k_ ≠ (v308 : Value).ownBlock ∧ some k_ ≠ (v314 : Value).ownBlock ∧ some k_ ≠ (.slice Ao49 x299002_1.length co49 : Value).ownBlock) v311 y310) := ⟨h1_⟩
              have n2_ : Aside0 (Kd.R (Kd.int .i64) 2 w57 w.heap.size (fun k_ => some k_ ≠ (v308 : Value).ownBlock ∧ some k_ ≠ (v311 : Value).ownBlock ∧ some k_ ≠ (.slice Ao49 x299002_1.length co49 : Value).ownBlock) v314 y313) := ⟨h2_⟩
              have n3_ : Aside0 (Kd.R (Kd.int .i64) 2 w57 w.heap.size (fun k_ => some k_ ≠ (v308 : Value).ownBlock ∧ some k_ ≠ (v311 : Value).ownBlock ∧ some k_ ≠ (v314 : Value).ownBlock) (.slice Ao49 x299002_1.length co49) x299002_1) := ⟨h3_⟩
              have n4_ : Aside0 (w57.heap[gb294]? = some (.cells #[.int .i64 a0_0, .slice (some ad299) l0_1.length c0_1, .slice (some ad302) l0_2.length c0_2] 29 (0, 0))) := ⟨h4_⟩
              have n5_ : Aside0 (w57.heap[gb295]? = some (.cells #[.int .i64 x296000_1, .slice none 0 0, .slice none 0 0] 29 (0, 0))) := ⟨h5_⟩
              have n6_ : Aside0 (w57.heap[gb298]? = some (.cells #[.int .i64 a0_0, .slice Ao48 x299001_1.length co48, .slice Ao49 x299002_1.length co49] 29 (0, 0))) := ⟨h6_⟩
              have n7_ : Aside0 (Below w.heap.size w w57) := ⟨h7_⟩
              clear HO_299001
              clear HO_299002
              clear BK294
              clear BK295
              clear BK298
              clear HB
              clear h0_ h1_ h2_ h3_ h4_ h5_ h6_ h7_
              have HO309 := n0_
              have HO312 := n1_
              have HO315 := n2_
              have HO_299002 := n3_
              have BK294 := n4_
              have BK295 := n5_
              have BK298 := n6_
              have HB := n7_
              clear n0_ n1_ n2_ n3_ n4_ n5_ n6_ n7_
              have hHeld : w57.cell? ⟨gb298, 0, none⟩ = some (.int .i64 a0_0) ∧ w57.cell? ⟨gb298, 1, none⟩ = some (.slice Ao48 x299001_1.length co48) ∧ w57.cell? ⟨gb298, 2, none⟩ = some (.slice Ao49 x299002_1.length co49) := hS_
              obtain ⟨Ao59, co59, eo59⟩ := Kd.R_slice HO315.out
              (first | subst eo59 | (injection eo59 with f1_ f2_ f3_; have f4_ := f1_.symm; have f5_ := f3_.symm; clear f1_ f2_ f3_; subst f4_; subst f5_))
              refine norm_ (a' := ?_) ?_ ?_
              rotate_left
              ·simp only [putAll, Act.put, List.setIfInBounds_toArray, List.set_cons_zero, List.set_cons_succ]
               rfl
              refine one_ (i := 15) (N := some 79) #[true, true, true, true, true, true, true, true, true, true, true, true, true, true, true, true, true, false, false, false] rfl rfl (one_of HT_.out (by kernel_rfl)) (by decide) (fun K hK => ?_)
              refine Kd.R_append_rows_step (Kd.int .i64) (w0 := w) w.heap.size (by rfl) (.tmp 76) (.tmp 78) 22 2 (.int .i64 0) 8 rfl Try.underlying22 info2 rfl (by decide) (by omega) (.slice Ao49 x299002_1.length co49) x299002_1 y313 _ _ _ (fun k_ => some k_ ≠ (v308 : Value).ownBlock ∧ some k_ ≠ (v311 : Value).ownBlock ∧ some k_ ≠ (.slice Ao59 y313.length co59 : Value).ownBlock) (fun _ => False) rfl rfl ?aO ?aR (fun _ _ h => h) (fun _ h => h.elim) ?aF ?aB ?aS ?aL ?_
              (case aR => repeat (first | exact (Kd.R_reads' HO315.out).2.2 | (with_reducible refine Kd.C_alloc ?_ _) | (with_reducible refine Kd.C_drewN ?_ _) | (with_reducible refine Kd.C_drew ?_)))
              (case aB => exact ZB)
              (case aF => exact (fun k_ hk => ⟨Kd.fresh' (Kd.R_lt (ZR HO309)) k_ hk, Kd.fresh' (Kd.R_lt (ZR HO312)) k_ hk, Kd.fresh' (Kd.R_lt (ZR HO315)) k_ hk⟩))
              (case aO => exact (ZR HO_299002))
              (case aS => exact (below_size ZB))
              (case aL => have := LMc44.out; omega)
              intro v317 w58 ho hb hg hat
              rw [← Ny316.out] at ho
              have n0_ := Aside0.mk (blk_grown (ZK BK294) hg (Kd.R_ne HO_299002.out BK294.out (by decide)))
              have n1_ := Aside0.mk (blk_grown (ZK BK295) hg (Kd.R_ne HO_299002.out BK295.out (by decide)))
              have n2_ := Aside0.mk (blk_grown (ZK BK298) hg (Kd.R_ne HO_299002.out BK298.out (by decide)))
              have n3_ := Aside0.mk (Kd.R_after (ok := (fun k_ => some k_ ≠ (v311 : Value).ownBlock ∧ some k_ ≠ (.slice Ao59 y313.length co59 : Value).ownBlock)) (by refine ZQ ?_; exact Kd.R_mono HO309.out (fun _ hk => (And.intro ((And.intro (hk.1) (hk.2.1))) (hk.2.2)))) hg hat)
              have n4_ := Aside0.mk (Kd.R_after (ok := (fun k_ => some k_ ≠ (v308 : Value).ownBlock ∧ some k_ ≠ (.slice Ao59 y313.length co59 : Value).ownBlock)) (by refine ZQ ?_; exact Kd.R_mono HO312.out (fun _ hk => (And.intro ((And.intro (hk.1) (hk.2.1))) (hk.2.2)))) hg hat)
              have n5_ := Aside0.mk (Kd.R_after (ok := (fun k_ => some k_ ≠ (v308 : Value).ownBlock ∧ some k_ ≠ (v311 : Value).ownBlock)) (by refine ZQ ?_; exact Kd.R_mono HO315.out (fun _ hk => (And.intro ((And.intro (hk.1) (hk.2.1))) (hk.2.2)))) hg hat)
              have n6_ := Aside0.mk (hb)
              have n7_ := Aside0.mk (ho)
              clear BK294
              clear BK295
              clear BK298
              clear HO309
              clear HO312
              clear HO315
              clear HB
              clear HO_299002
              have BK294 := n0_
              have BK295 := n1_
              have BK298 := n2_
              have HO309 := n3_
              have HO312 := n4_
              have HO315 := n5_
              have HB := n6_
              have HO318 := n7_
              clear n0_ n1_ n2_ n3_ n4_ n5_ n6_ n7_
              clear ho hb hg hat
              obtain ⟨Ao60, co60, eo60⟩ := Kd.R_slice HO312.out
              (first | subst eo60 | (injection eo60 with f1_ f2_ f3_; have f4_ := f1_.symm; have f5_ := f3_.symm; clear f1_ f2_ f3_; subst f4_; subst f5_))
              obtain ⟨Ao62, co62, eo62⟩ := Kd.R_slice HO318.out
              (first | subst eo62 | (injection eo62 with f1_ f2_ f3_; have f4_ := f1_.symm; have f5_ := f3_.symm; clear f1_ f2_ f3_; subst f4_; subst f5_))
              refine hK.out _ _ ⟨(blk_cell BK298.out 0).trans rfl, (blk_cell BK298.out 1).trans rfl, (blk_cell BK298.out 2).trans rfl⟩ (fun hHeld => ?_)
              clear hK K
              refine norm_ (a' := ?_) ?_ ?_
              rotate_left
              ·show Act.put _ (some 79) _ = _
               simp only [Act.put, List.setIfInBounds_toArray, List.set_cons_zero, List.set_cons_succ, i64_w, i32_w]
               rfl
              refine last_ (i := 17) (N := none) #[true, true, true, true, true, true, true, true, true, true, true, true, true, true, true, true, true, true, false, false] rfl rfl (one_of HT_.out (by kernel_rfl)) (by decide) (fun K hK => ?_)
              have hs61 : w58.cell? ⟨gb298, 1, none⟩ = some (.slice Ao48 x299001_1.length co48) := (blk_cell BK298.out 1).trans rfl
              have hfs61 := blk_frozen BK298.out 1
              have hns61_0 := NB294_298.out
              have hns61_1 := NB295_298.out
              have hms61_0 := NB298_294.out
              have hms61_1 := NB298_295.out
              refine skip_ (w1 := ?_) (by rfl) rfl ?_ ?_
              rotate_left
              ·go_simp
               rfl
              refine hK.out _ _ ?_
              clear hK K
              refine Zpt 18 (some 81) (h := ?_)
              refine last_ (i := 19) (N := none) #[true, true, true, true, true, true, true, true, true, true, true, true, true, true, true, true, true, true, true, true] rfl rfl (one_of HT_.out (by kernel_rfl)) (by decide) (fun K hK => ?_)
              have hs63 : w58.cell? ⟨gb298, 2, none⟩ = some (.slice Ao49 x299002_1.length co49) := (blk_cell BK298.out 2).trans rfl
              have hfs63 := blk_frozen BK298.out 2
              have hns63_0 := NB294_298.out
              have hns63_1 := NB295_298.out
              have hms63_0 := NB298_294.out
              have hms63_1 := NB298_295.out
              refine skip_ (w1 := ?_) (by rfl) rfl ?_ ?_
              rotate_left
              ·go_simp
               rfl
              refine hK.out _ _ ?_
              clear hK K
              refine done_ (done_of HT_.out (by kernel_rfl)) ?_
              try go_wp2
              go_roundg k1
              case measure => have := HK1.out; omega
              case rel => exact ⟨(t305), (ji38), (x296000_1), (y310), (y316), (.slice Ao60 y310.length co60), (.slice Ao62 y316.length co62), (by first | rfl | (simp; done) | (simp [*]; done)), (by first | rfl | (simp; done) | (simp only [← hji38] <;> (first | rfl | simp)) | (simp [*]; done)), H', ⟨by have := HK1.out; omega⟩, ⟨by refine ZQ ?_; exact Kd.R_mono (Kd.R_far (p := ⟨gb298, 2, none⟩) (Kd.R_far (p := ⟨gb298, 1, none⟩) (Kd.R_types HO312.out BK298.out (by decide)) (fun _ hk => hk.2) (.slice Ao60 y310.length co60)) (fun _ hk => hk.2) (.slice Ao62 y316.length co62)) (fun _ hk => hk.1.2)⟩, ⟨by refine ZQ ?_; exact Kd.R_mono (Kd.R_far (p := ⟨gb298, 2, none⟩) (Kd.R_far (p := ⟨gb298, 1, none⟩) (Kd.R_types HO318.out BK298.out (by decide)) (fun _ hk => hk.2) (.slice Ao60 y310.length co60)) (fun _ hk => hk.2) (.slice Ao62 y316.length co62)) (fun _ hk => hk.1.2.1)⟩, ⟨by refine ZS ?_; refine blk_far ?_ NB294_298.out _; refine ZS ?_; refine blk_far ?_ NB294_298.out _; refine ZS ?_; exact BK294.out⟩, ⟨by refine ZS ?_; refine blk_far ?_ NB295_298.out _; refine ZS ?_; refine blk_far ?_ NB295_298.out _; refine ZS ?_; exact BK295.out⟩, ⟨by refine ZS ?_; refine blk_put (cs := #[.int .i64 a0_0, .slice Ao60 y310.length co60, .slice Ao49 x299002_1.length co49]) ?_ 2 _ rfl; refine ZS ?_; refine blk_put (cs := #[.int .i64 a0_0, .slice Ao48 x299001_1.length co48, .slice Ao49 x299002_1.length co49]) ?_ 1 _ rfl; refine ZS ?_; exact BK298.out⟩, ⟨ZB⟩⟩
             ·rw [if_neg c44] at H
              exact absurd H (by simp)
            ·rw [if_neg c43] at H
             exact absurd H (by simp)
           ·rw [if_neg c40] at H
            exact absurd H (by simp)
          ·rw [if_neg c39] at H
           exact absurd H (by simp)
         ·rw [if_neg c36] at H
          exact absurd H (by simp)
        ·rw [if_neg c35] at H
         have c35b0 : (x25_1 == 0) = false := beq_eq_false_iff_ne.mpr c35
         have c35b1 : (x25_1 != 0) = true := bne_iff_ne.mpr c35
         obtain ⟨ji64, hji64⟩ : ∃ j_ : Int, (wrap64 (x25_1 + 1)) = j_ := ⟨_, rfl⟩
         replace H : (if 0 ≤ (ji64) then (if (ji64) < (l0_2.length : Int) then ((impl_field_div.f k1 t296 (rd l0_2 (ji64)) t300).bind fun t320 => ((impl_field_mod.f t296 (wrap64 ((wrap64 (t300 + t320)) + a1))).bind fun t321 => ((some (([t321] : List Int) : List Int)).bind fun y322 => (if x299001_1.length + y322.length < 17592186044416 then ((some (([t301] : List Int) : List Int)).bind fun y328 => (if x299002_1.length + y328.length < 17592186044416 then (impl_Jacobi_step.l0 k1 a1 t296 t320 (wrap64 (t297 - 1)) ji64 a0_0 l0_1 l0_2 a0_0 (x299001_1 ++ y322) (x299002_1 ++ y328)) else (none))) else (none))))) else (none)) else (none)) = some (r1, r2, r3, r4) := by first | (rw [hji64] at H; exact H) | (simp only [hji64] at H ⊢; exact H)
         (try rw [hji64] at A27)
         (try rw [hji64] at A34)
         have hji64w : (IntKind.i64.wrap (x25_1 + 1)) = ji64 := (i64_w _).trans hji64
         by_cases c65 : 0 ≤ (ji64)
         ·rw [if_pos c65] at H
          have c65b0 : decide (0 ≤ (ji64)) = true := decide_eq_true c65
          clear c65
          by_cases c66 : (ji64) < (l0_2.length : Int)
          ·rw [if_pos c66] at H
           have c66b0 : decide ((ji64) < (l0_2.length : Int)) = true := decide_eq_true c66
           clear c66
           replace H := Option.bind_eq_some_iff.mp H
           obtain ⟨t320, A670, H⟩ := H
           replace H : ((impl_field_mod.f t296 (wrap64 ((wrap64 (t300 + t320)) + a1))).bind fun t321 => ((some (([t321] : List Int) : List Int)).bind fun y322 => (if x299001_1.length + y322.length < 17592186044416 then ((some (([t301] : List Int) : List Int)).bind fun y328 => (if x299002_1.length + y328.length < 17592186044416 then (impl_Jacobi_step.l0 k1 a1 t296 t320 (wrap64 (t297 - 1)) ji64 a0_0 l0_1 l0_2 a0_0 (x299001_1 ++ y322) (x299002_1 ++ y328)) else (none))) else (none)))) = some (r1, r2, r3, r4) := H
           have A67 := Aside0.mk A670
           clear A670
           replace H := Option.bind_eq_some_iff.mp H
           obtain ⟨t321, A680, H⟩ := H
           replace H : ((some (([t321] : List Int) : List Int)).bind fun y322 => (if x299001_1.length + y322.length < 17592186044416 then ((some (([t301] : List Int) : List Int)).bind fun y328 => (if x299002_1.length + y328.length < 17592186044416 then (impl_Jacobi_step.l0 k1 a1 t296 t320 (wrap64 (t297 - 1)) ji64 a0_0 l0_1 l0_2 a0_0 (x299001_1 ++ y322) (x299002_1 ++ y328)) else (none))) else (none))) = some (r1, r2, r3, r4) := H
           have A68 := Aside0.mk A680
           clear A680
           obtain ⟨y322, hy322⟩ : ∃ y_ : List Int, y_ = (([t321] : List Int)) := ⟨_, rfl⟩
           replace H : (if x299001_1.length + y322.length < 17592186044416 then ((some (([t301] : List Int) : List Int)).bind fun y328 => (if x299002_1.length + y328.length < 17592186044416 then (impl_Jacobi_step.l0 k1 a1 t296 t320 (wrap64 (t297 - 1)) ji64 a0_0 l0_1 l0_2 a0_0 (x299001_1 ++ y322) (x299002_1 ++ y328)) else (none))) else (none)) = some (r1, r2, r3, r4) := by first | (rw [hy322]; with_reducible exact H) | (have H2_ := (Option.bind_some _ _).symm.trans H; rw [hy322]; with_reducible exact H2_) | (have H2_ := (Option.bind_some _ _).symm.trans H; with_reducible exact H2_) | with_reducible exact H | (rw [hy322]; exact H) | exact H
           have Ny322 := Aside0.mk hy322
           clear hy322
           by_cases c69 : x299001_1.length + y322.length < 17592186044416
           ·rw [if_pos c69] at H
            have LMc69 := Aside0.mk c69
            clear c69
            obtain ⟨y325, hy325⟩ : ∃ y_ : List Int, y_ = (x299001_1 ++ y322) := ⟨_, rfl⟩
            replace H : ((some (([t301] : List Int) : List Int)).bind fun y328 => (if x299002_1.length + y328.length < 17592186044416 then (impl_Jacobi_step.l0 k1 a1 t296 t320 (wrap64 (t297 - 1)) ji64 a0_0 l0_1 l0_2 a0_0 y325 (x299002_1 ++ y328)) else (none))) = some (r1, r2, r3, r4) := by first | (rw [hy325]; with_reducible exact H) | (have H2_ := (Option.bind_some _ _).symm.trans H; rw [hy325]; with_reducible exact H2_) | (have H2_ := (Option.bind_some _ _).symm.trans H; with_reducible exact H2_) | with_reducible exact H | (rw [hy325]; exact H) | exact H
            have Ny325 := Aside0.mk hy325
            clear hy325
            obtain ⟨y328, hy328⟩ : ∃ y_ : List Int, y_ = (([t301] : List Int)) := ⟨_, rfl⟩
            replace H : (if x299002_1.length + y328.length < 17592186044416 then (impl_Jacobi_step.l0 k1 a1 t296 t320 (wrap64 (t297 - 1)) ji64 a0_0 l0_1 l0_2 a0_0 y325 (x299002_1 ++ y328)) else (none)) = some (r1, r2, r3, r4) := by first | (rw [hy328]; with_reducible exact H) | (have H2_ := (Option.bind_some _ _).symm.trans H; rw [hy328]; with_reducible exact H2_) | (have H2_ := (Option.bind_some _ _).symm.trans H; with_reducible exact H2_) | with_reducible exact H | (rw [hy328]; exact H) | exact H
            have Ny328 := Aside0.mk hy328
            clear hy328
            by_cases c70 : x299002_1.length + y328.length < 17592186044416
            ·rw [if_pos c70] at H
             have LMc70 := Aside0.mk c70
             clear c70
             obtain ⟨y331, hy331⟩ : ∃ y_ : List Int, y_ = (x299002_1 ++ y328) := ⟨_, rfl⟩
             replace H : (impl_Jacobi_step.l0 k1 a1 t296 t320 (wrap64 (t297 - 1)) ji64 a0_0 l0_1 l0_2 a0_0 y325 y331) = some (r1, r2, r3, r4) := by first | (rw [hy331]; with_reducible exact H) | (have H2_ := (Option.bind_some _ _).symm.trans H; rw [hy331]; with_reducible exact H2_) | (have H2_ := (Option.bind_some _ _).symm.trans H; with_reducible exact H2_) | with_reducible exact H | (rw [hy331]; exact H) | exact H
             have Ny331 := Aside0.mk hy331
             clear hy331
             have H' := Aside0.mk H
             clear H
             have hnb71 := NB294_295.out
             have hnc71 := NB295_294.out
             have hnb72 := NB294_298.out
             have hnc72 := NB298_294.out
             obtain ⟨hcz73_0, hcz73_1, hcz73_2, hfz73_0, hfz73_1, hfz73_2⟩ := ZD3 BK294
             have p299 : 0 ≤ (x25_1 : Int) := of_decide_eq_true (by first | (with_reducible assumption) | assumption)
             have q299 : x25_1 < (l0_1.length : Int) := of_decide_eq_true (by first | (with_reducible assumption) | assumption)
             obtain ⟨ad299, e299, hx299_0⟩ := Kd.at_int HR0_1.out x25_1 p299 q299
             cases e299
             replace hx299_0 := (HB.out.cell (World.block_lt_of_cell? w _ hx299_0)).trans hx299_0
             replace p299 := eq_true p299
             replace q299 := eq_true q299
             try go_wp2_with (first | ((with_reducible refine gate_callee (f := 97) rfl ?_); refine goesL_ (some 38) rfl rfl Try.func97 (by kernel_rfl) rfl #[.int .i64 t296, .int .i64 (wrap64 ((wrap64 ((rd l0_1 x25_1) - a1)) - x9_1))] rfl ZA ?_; (with_reducible refine (impl_field_mod.calls t296 (wrap64 ((wrap64 ((rd l0_1 x25_1) - a1)) - x9_1)) t300 _ A27.out).mono ?_); rintro e w' ⟨rfl, ⟨nd, rfl⟩⟩; refine ⟨_, rfl, ?_⟩; (try (rw [drewN_self wr]; generalize hq_ : World.drewN wr _ = wr; have n0_ : Aside0 (Kd.R (Kd.int .i64) 2 wr w.heap.size (fun k_ => some k_ ≠ (u299002 : Value).ownBlock) u299001 x299001_1) := ⟨by rw [← hq_]; exact (ZR HO_299001)⟩; have n1_ : Aside0 (Kd.R (Kd.int .i64) 2 wr w.heap.size (fun k_ => some k_ ≠ (u299001 : Value).ownBlock) u299002 x299002_1) := ⟨by rw [← hq_]; exact (ZR HO_299002)⟩; have n2_ : Aside0 (wr.heap[gb294]? = some (.cells #[.int .i64 a0_0, .slice (some ad299) l0_1.length c0_1, .slice A0_2 l0_2.length c0_2] 29 (0, 0))) := ⟨by rw [← hq_]; exact (ZK BK294)⟩; have n3_ : Aside0 (wr.heap[gb295]? = some (.cells #[.int .i64 x296000_1, .slice none 0 0, .slice none 0 0] 29 (0, 0))) := ⟨by rw [← hq_]; exact (ZK BK295)⟩; have n4_ : Aside0 (wr.heap[gb298]? = some (.cells #[.int .i64 a0_0, u299001, u299002] 29 (0, 0))) := ⟨by rw [← hq_]; exact (ZK BK298)⟩; have n5_ : Aside0 (Below w.heap.size w wr) := ⟨by rw [← hq_]; exact ZB⟩; clear HO_299001 HO_299002 BK294 BK295 BK298 HB hq_; have HO_299001 := n0_; have HO_299002 := n1_; have BK294 := n2_; have BK295 := n3_; have BK298 := n4_; have HB := n5_; clear n0_ n1_ n2_ n3_ n4_ n5_)); (try (obtain ⟨hcy294_0, hcy294_1, hcy294_2, hfy294_0, hfy294_1, hfy294_2⟩ := ZD3 BK294)); (try (obtain ⟨hcy295_0, hcy295_1, hcy295_2, hfy295_0, hfy295_1, hfy295_2⟩ := ZD3 BK295)); (try (obtain ⟨hcy298_0, hcy298_1, hcy298_2, hfy298_0, hfy298_1, hfy298_2⟩ := ZD3 BK298))) | ((with_reducible refine gate_callee (f := 101) rfl ?_); refine goesL_ (some 45) rfl rfl Try.func101 (by kernel_rfl) rfl #[.int .i64 t296, .int .i64 t300, .int .i64 x9_1] rfl ZA ?_; (with_reducible refine (impl_field_mul.calls t296 t300 x9_1 t301 _ A34.out).mono ?_); rintro e w' ⟨rfl, ⟨nd, rfl⟩⟩; refine ⟨_, rfl, ?_⟩; (try (rw [drewN_self wr]; generalize hq_ : World.drewN wr _ = wr; have n0_ : Aside0 (Kd.R (Kd.int .i64) 2 wr w.heap.size (fun k_ => some k_ ≠ (u299002 : Value).ownBlock) u299001 x299001_1) := ⟨by rw [← hq_]; exact (ZR HO_299001)⟩; have n1_ : Aside0 (Kd.R (Kd.int .i64) 2 wr w.heap.size (fun k_ => some k_ ≠ (u299001 : Value).ownBlock) u299002 x299002_1) := ⟨by rw [← hq_]; exact (ZR HO_299002)⟩; have n2_ : Aside0 (wr.heap[gb294]? = some (.cells #[.int .i64 a0_0, .slice (some ad299) l0_1.length c0_1, .slice A0_2 l0_2.length c0_2] 29 (0, 0))) := ⟨by rw [← hq_]; exact (ZK BK294)⟩; have n3_ : Aside0 (wr.heap[gb295]? = some (.cells #[.int .i64 x296000_1, .slice none 0 0, .slice none 0 0] 29 (0, 0))) := ⟨by rw [← hq_]; exact (ZK BK295)⟩; have n4_ : Aside0 (wr.heap[gb298]? = some (.cells #[.int .i64 a0_0, u299001, u299002] 29 (0, 0))) := ⟨by rw [← hq_]; exact (ZK BK298)⟩; have n5_ : Aside0 (Below w.heap.size w wr) := ⟨by rw [← hq_]; exact ZB⟩; clear HO_299001 HO_299002 BK294 BK295 BK298 HB hq_; have HO_299001 := n0_; have HO_299002 := n1_; have BK294 := n2_; have BK295 := n3_; have BK298 := n4_; have HB := n5_; clear n0_ n1_ n2_ n3_ n4_ n5_)); (try (obtain ⟨hcy294_0, hcy294_1, hcy294_2, hfy294_0, hfy294_1, hfy294_2⟩ := ZD3 BK294)); (try (obtain ⟨hcy295_0, hcy295_1, hcy295_2, hfy295_0, hfy295_1, hfy295_2⟩ := ZD3 BK295)); (try (obtain ⟨hcy298_0, hcy298_1, hcy298_2, hfy298_0, hfy298_1, hfy298_2⟩ := ZD3 BK298)); have p319 : 0 ≤ ((ji64) : Int) := of_decide_eq_true (by first | (with_reducible assumption) | assumption); have q319 : (ji64) < (l0_2.length : Int) := of_decide_eq_true (by first | (with_reducible assumption) | assumption); obtain ⟨ad319, e319, hx319_0⟩ := Kd.at_int HR0_2.out (ji64) p319 q319; cases e319; replace hx319_0 := (HB.out.cell (World.block_lt_of_cell? w _ hx319_0)).trans hx319_0; replace p319 := eq_true p319; replace q319 := eq_true q319) | ((with_reducible refine gate_callee (f := 102) rfl ?_); refine goesL_ (some 63) rfl rfl Try.func102 (by kernel_rfl) rfl #[.int .i64 t296, .int .i64 (rd l0_2 (ji64)), .int .i64 t300] rfl (by (try simp only [List.map_toArray, List.map_cons, List.map_nil]); first | done | (simp only [hji64]; rfl) | rfl | (simp only [List.length_drop, List.length_take]; rfl)) ?_; (with_reducible refine (impl_field_div.calls k1 t296 (rd l0_2 (ji64)) t300 t320 _ A67.out).mono ?_); rintro e w' ⟨rfl, ⟨nd, rfl⟩⟩; refine ⟨_, rfl, ?_⟩; (try (rw [drewN_self wr]; generalize hq_ : World.drewN wr _ = wr; have n0_ : Aside0 (Kd.R (Kd.int .i64) 2 wr w.heap.size (fun k_ => some k_ ≠ (u299002 : Value).ownBlock) u299001 x299001_1) := ⟨by rw [← hq_]; exact (ZR HO_299001)⟩; have n1_ : Aside0 (Kd.R (Kd.int .i64) 2 wr w.heap.size (fun k_ => some k_ ≠ (u299001 : Value).ownBlock) u299002 x299002_1) := ⟨by rw [← hq_]; exact (ZR HO_299002)⟩; have n2_ : Aside0 (wr.heap[gb294]? = some (.cells #[.int .i64 a0_0, .slice (some ad299) l0_1.length c0_1, .slice (some ad319) l0_2.length c0_2] 29 (0, 0))) := ⟨by rw [← hq_]; exact (ZK BK294)⟩; have n3_ : Aside0 (wr.heap[gb295]? = some (.cells #[.int .i64 x296000_1, .slice none 0 0, .slice none 0 0] 29 (0, 0))) := ⟨by rw [← hq_]; exact (ZK BK295)⟩; have n4_ : Aside0 (wr.heap[gb298]? = some (.cells #[.int .i64 a0_0, u299001, u299002] 29 (0, 0))) := ⟨by rw [← hq_]; exact (ZK BK298)⟩; have n5_ : Aside0 (Below w.heap.size w wr) := ⟨by rw [← hq_]; exact ZB⟩; clear HO_299001 HO_299002 BK294 BK295 BK298 HB hq_; have HO_299001 := n0_; have HO_299002 := n1_; have BK294 := n2_; have BK295 := n3_; have BK298 := n4_; have HB := n5_; clear n0_ n1_ n2_ n3_ n4_ n5_)); (try (obtain ⟨hcy294_0, hcy294_1, hcy294_2, hfy294_0, hfy294_1, hfy294_2⟩ := ZD3 BK294)); (try (obtain ⟨hcy295_0, hcy295_1, hcy295_2, hfy295_0, hfy295_1, hfy295_2⟩ := ZD3 BK295)); (try (obtain ⟨hcy298_0, hcy298_1, hcy298_2, hfy298_0, hfy298_1, hfy298_2⟩ := ZD3 BK298)); obtain ⟨Ao74, co74, eo74⟩ := Kd.R_slice HO_299001.out; subst eo74; obtain ⟨Ao75, co75, eo75⟩ := Kd.R_slice HO_299002.out; subst eo75))
             have n0_ := Aside0.mk (Kd.R_drew HO_299001.out)
             have n1_ := Aside0.mk (Kd.R_drew HO_299002.out)
             have n2_ := Aside0.mk (blk_drew BK294.out)
             have n3_ := Aside0.mk (blk_drew BK295.out)
             have n4_ := Aside0.mk (blk_drew BK298.out)
             have n5_ := Aside0.mk (below_drew1 HB.out)
             clear HO_299001
             clear HO_299002
             clear BK294
             clear BK295
             clear BK298
             clear HB
             have HO_299001 := n0_
             have HO_299002 := n1_
             have BK294 := n2_
             have BK295 := n3_
             have BK298 := n4_
             have HB := n5_
             clear n0_ n1_ n2_ n3_ n4_ n5_
             refine start_ (n := 20) (S := fun w' => w'.cell? ⟨gb298, 0, none⟩ = some (.int .i64 a0_0) ∧ w'.cell? ⟨gb298, 1, none⟩ = some (.slice Ao74 x299001_1.length co74) ∧ w'.cell? ⟨gb298, 2, none⟩ = some (.slice Ao75 x299002_1.length co75)) (ds := [17, 19]) #[false, false, false, false, false, false, false, false, false, false, false, false, false, false, false, false, false, false, false, false] (by kernel_rfl) rfl rfl ⟨(blk_cell BK298.out 0).trans rfl, (blk_cell BK298.out 1).trans rfl, (blk_cell BK298.out 2).trans rfl⟩ (fun hHeld => ?_); refine with_tabW impl_Jacobi_step.tab16 impl_Jacobi_step.bits16 (fun HT_ HW_ => ?_)
             generalize wr.drew = w76 at HO_299001 HO_299002 BK294 BK295 BK298 HB hHeld ⊢
             refine Zpt 0 (some 64) (h := ?_)
             refine Zpt 2 (some 66) (h := ?_)
             refine Zpt 3 (some 67) (h := ?_)
             refine Zpt 4 (some 68) (h := ?_)
             refine Zpt 5 (some 69) (h := ?_)
             refine Zpt 6 (some 70) (h := ?_)
             refine Zpt 7 (some 71) (h := ?_)
             refine Zpt 11 (some 75) (h := ?_)
             refine Zpt 13 (some 77) (h := ?_)
             refine ZtW3 1 (some 65) hHeld (h := ?_)
             refine ZtW3 12 (some 76) hHeld (h := ?_)
             refine join_ (σ := Value × Value × Value) 4 #[true, true, true, true, true, true, true, true, true, true, true, true, true, true, true, false, true, false, false, false] (fun s_ => [(72, .int .i64 t321), (73, s_.1), (74, s_.2.1), (78, s_.2.2), (80, .pointer (some ⟨gb298, 1, none⟩))]) (fun s_ w' => (w'.cell? ⟨gb298, 0, none⟩ = some (.int .i64 a0_0) ∧ w'.cell? ⟨gb298, 1, none⟩ = some (.slice Ao74 x299001_1.length co74) ∧ w'.cell? ⟨gb298, 2, none⟩ = some (.slice Ao75 x299002_1.length co75)) ∧ (Kd.R (Kd.int .i64) 2 w' w.heap.size (fun k_ => some k_ ≠ (s_.2.1 : Value).ownBlock ∧ some k_ ≠ (s_.2.2 : Value).ownBlock ∧ some k_ ≠ (.slice Ao75 x299002_1.length co75 : Value).ownBlock) s_.1 y322) ∧ (Kd.R (Kd.int .i64) 2 w' w.heap.size (fun k_ => some k_ ≠ (s_.1 : Value).ownBlock ∧ some k_ ≠ (s_.2.2 : Value).ownBlock ∧ some k_ ≠ (.slice Ao75 x299002_1.length co75 : Value).ownBlock) s_.2.1 y325) ∧ (Kd.R (Kd.int .i64) 2 w' w.heap.size (fun k_ => some k_ ≠ (s_.1 : Value).ownBlock ∧ some k_ ≠ (s_.2.1 : Value).ownBlock ∧ some k_ ≠ (.slice Ao75 x299002_1.length co75 : Value).ownBlock) s_.2.2 y328) ∧ (Kd.R (Kd.int .i64) 2 w' w.heap.size (fun k_ => some k_ ≠ (s_.1 : Value).ownBlock ∧ some k_ ≠ (s_.2.1 : Value).ownBlock ∧ some k_ ≠ (s_.2.2 : Value).ownBlock) (.slice Ao75 x299002_1.length co75) x299002_1) ∧ (w'.heap[gb294]? = some (.cells #[.int .i64 a0_0, .slice (some ad299) l0_1.length c0_1, .slice (some ad319) l0_2.length c0_2] 29 (0, 0))) ∧ (w'.heap[gb295]? = some (.cells #[.int .i64 x296000_1, .slice none 0 0, .slice none 0 0] 29 (0, 0))) ∧ (w'.heap[gb298]? = some (.cells #[.int .i64 a0_0, .slice Ao74 x299001_1.length co74, .slice Ao75 x299002_1.length co75] 29 (0, 0))) ∧ (Below w.heap.size w w')) ?_ ?_
             rotate_left
             ·intro hCont
              refine two_ (i := 8) (j := 14) (Ni := some 72) (Nj := some 78) #[true, true, true, true, true, true, true, true, true, false, false, true, true, true, false, false, false, false, false, false] #[true, true, true, true, true, true, true, true, false, false, false, true, true, true, true, false, false, false, false, false] rfl rfl rfl rfl (two_of HT_.out (by kernel_rfl)) (by decide) (by decide) (fun K hK => ?_) (fun K hK => ?_)
              ·skip
               refine goes_ Try.func97 (by kernel_rfl) rfl #[.int .i64 t296, .int .i64 (wrap64 ((wrap64 (t300 + t320)) + a1))] (by rfl) rfl rfl ZA ?_
               with_reducible refine (impl_field_mod.calls t296 (wrap64 ((wrap64 (t300 + t320)) + a1)) t321 _ A68.out).mono ?_
               rintro e w' ⟨rfl, ⟨nd, rfl⟩⟩
               refine ⟨_, rfl, ?_⟩
               refine hK.out _ _ ⟨(blk_cell BK298.out 0).trans rfl, (blk_cell BK298.out 1).trans rfl, (blk_cell BK298.out 2).trans rfl⟩ (fun hHeld => ?_)
               clear hK K
               refine norm_ (a' := ?_) ?_ ?_
               rotate_left
               ·show Act.put _ (some 72) _ = _
                simp only [Act.put, List.setIfInBounds_toArray, List.set_cons_zero, List.set_cons_succ, i64_w, i32_w]
                rfl
               refine two_ (i := 9) (j := 14) (Ni := some 73) (Nj := some 78) #[true, true, true, true, true, true, true, true, true, true, false, true, true, true, false, false, false, false, false, false] #[true, true, true, true, true, true, true, true, true, false, false, true, true, true, true, false, false, false, false, false] rfl rfl rfl rfl (two_of HT_.out (by kernel_rfl)) (by decide) (by decide) (fun K hK => ?_) (fun K hK => ?_)
               ·skip
                refine Kd.R_lit_step (Kd.int .i64) _ 2 ?hg (N := 73) ?hd (xs := ([t321] : List Int)) (inner := [.int .i64 t321]) (ok := fun _ => True) (okp := fun _ => True) ?hr ?hp (fun _ hk => hk) trivial (Below.refl _ _) (Nat.le_refl _) (by simp) ?_; (case hd => rfl); (case hg => rfl); (case hr => first | (go_simp; done) | (go_simp; rfl)); (case hp => exact (Reps.one (show Kd.M (Kd.int .i64) _ _ _ t321 [.int .i64 t321] from rfl) (Reps.none _ _)))
                intro v323 w77 ho78 hb hg_ hnew_
                clear hg_ hnew_
                (first | rw [← Ny322.out] at ho78 | (simp only [Int.reduceToNat] at ho78; rw [← Ny322.out] at ho78))
                have n0_ := Aside0.mk (Kd.R_elder' (ZR HO_299001) (Kd.R_base ho78) hb)
                have n1_ := Aside0.mk (Kd.R_elder' (ZR HO_299002) (Kd.R_base ho78) hb)
                have n2_ := Aside0.mk (Kd.R_lower (Kd.R_new' (Kd.R_new' ho78 (Kd.R_lt (ZR HO_299001))) (Kd.R_lt (ZR HO_299002))) (below_size ZB))
                have n3_ := ZL BK294 hb
                have n4_ := ZL BK295 hb
                have n5_ := ZL BK298 hb
                have n6_ := Aside0.mk (below_step ZB hb)
                clear HO_299001
                clear HO_299002
                clear BK294
                clear BK295
                clear BK298
                clear HB
                have HO_299001 := n0_
                have HO_299002 := n1_
                have HO324 := n2_
                have BK294 := n3_
                have BK295 := n4_
                have BK298 := n5_
                have HB := n6_
                clear n0_ n1_ n2_ n3_ n4_ n5_ n6_
                clear hb ho78
                obtain ⟨Ao80, co80, eo80⟩ := Kd.R_slice HO324.out
                (first | subst eo80 | (injection eo80 with f1_ f2_ f3_; have f4_ := f1_.symm; have f5_ := f3_.symm; clear f1_ f2_ f3_; subst f4_; subst f5_))
                refine hK.out _ _ ⟨(blk_cell BK298.out 0).trans rfl, (blk_cell BK298.out 1).trans rfl, (blk_cell BK298.out 2).trans rfl⟩ (fun hHeld => ?_)
                clear hK K
                refine norm_ (a' := ?_) ?_ ?_
                rotate_left
                ·show Act.put _ (some 73) _ = _
                 simp only [Act.put, List.setIfInBounds_toArray, List.set_cons_zero, List.set_cons_succ, i64_w, i32_w]
                 rfl
                refine two_ (i := 10) (j := 14) (Ni := some 74) (Nj := some 78) #[true, true, true, true, true, true, true, true, true, true, true, true, true, true, false, false, false, false, false, false] #[true, true, true, true, true, true, true, true, true, true, false, true, true, true, true, false, false, false, false, false] rfl rfl rfl rfl (two_of HT_.out (by kernel_rfl)) (by decide) (by decide) (fun K hK => ?_) (fun K hK => ?_)
                ·skip
                 refine Kd.R_append_rows_step (Kd.int .i64) (w0 := w) w.heap.size (by rfl) (.tmp 65) (.tmp 73) 22 2 (.int .i64 0) 8 rfl Try.underlying22 info2 rfl (by decide) (by omega) (.slice Ao74 x299001_1.length co74) x299001_1 y322 _ _ _ (fun k_ => some k_ ≠ (.slice Ao75 x299002_1.length co75 : Value).ownBlock ∧ some k_ ≠ (.slice Ao80 y322.length co80 : Value).ownBlock) (fun _ => False) rfl rfl ?aO ?aR (fun _ _ h => h) (fun _ h => h.elim) ?aF ?aB ?aS ?aL ?_
                 (case aR => repeat (first | exact (Kd.R_reads' HO324.out).2.2 | (with_reducible refine Kd.C_alloc ?_ _) | (with_reducible refine Kd.C_drewN ?_ _) | (with_reducible refine Kd.C_drew ?_)))
                 (case aB => exact ZB)
                 (case aF => exact (fun k_ hk => ⟨Kd.fresh' (Kd.R_lt (ZR HO_299002)) k_ hk, Kd.fresh' (Kd.R_lt (ZR HO324)) k_ hk⟩))
                 (case aO => exact (ZR HO_299001))
                 (case aS => exact (below_size ZB))
                 (case aL => have := LMc69.out; omega)
                 intro v326 w79 ho hb hg hat
                 rw [← Ny325.out] at ho
                 have n0_ := Aside0.mk (Kd.R_after (ok := (fun k_ => some k_ ≠ (.slice Ao80 y322.length co80 : Value).ownBlock)) (by refine ZQ ?_; exact Kd.R_mono HO_299002.out (fun _ hk => (And.intro (hk.2) (hk.1)))) hg hat)
                 have n1_ := Aside0.mk (blk_grown (ZK BK294) hg (Kd.R_ne HO_299001.out BK294.out (by decide)))
                 have n2_ := Aside0.mk (blk_grown (ZK BK295) hg (Kd.R_ne HO_299001.out BK295.out (by decide)))
                 have n3_ := Aside0.mk (blk_grown (ZK BK298) hg (Kd.R_ne HO_299001.out BK298.out (by decide)))
                 have n4_ := Aside0.mk (Kd.R_after (ok := (fun k_ => some k_ ≠ (.slice Ao75 x299002_1.length co75 : Value).ownBlock)) (by refine ZQ ?_; exact Kd.R_mono HO324.out (fun _ hk => (And.intro (hk.2) (hk.1.2)))) hg hat)
                 have n5_ := Aside0.mk (hb)
                 have n6_ := Aside0.mk (ho)
                 clear HO_299002
                 clear BK294
                 clear BK295
                 clear BK298
                 clear HO324
                 clear HB
                 clear HO_299001
                 have HO_299002 := n0_
                 have BK294 := n1_
                 have BK295 := n2_
                 have BK298 := n3_
                 have HO324 := n4_
                 have HB := n5_
                 have HO327 := n6_
                 clear n0_ n1_ n2_ n3_ n4_ n5_ n6_
                 clear ho hb hg hat
                 refine hK.out _ _ ⟨(blk_cell BK298.out 0).trans rfl, (blk_cell BK298.out 1).trans rfl, (blk_cell BK298.out 2).trans rfl⟩ (fun hHeld => ?_)
                 clear hK K
                 refine norm_ (a' := ?_) ?_ ?_
                 rotate_left
                 ·show Act.put _ (some 74) _ = _
                  simp only [Act.put, List.setIfInBounds_toArray, List.set_cons_zero, List.set_cons_succ, i64_w, i32_w]
                  rfl
                 refine Zpt 16 (some 80) (h := ?_)
                 refine one_ (i := 14) (N := some 78) #[true, true, true, true, true, true, true, true, true, true, true, true, true, true, true, false, true, false, false, false] rfl rfl (one_of HT_.out (by kernel_rfl)) (by decide) (fun K hK => ?_)
                 refine Kd.R_lit_step (Kd.int .i64) _ 2 ?hg (N := 78) ?hd (xs := ([t301] : List Int)) (inner := [.int .i64 t301]) (ok := fun _ => True) (okp := fun _ => True) ?hr ?hp (fun _ hk => hk) trivial (Below.refl _ _) (Nat.le_refl _) (by simp) ?_; (case hd => rfl); (case hg => rfl); (case hr => first | (go_simp; done) | (go_simp; rfl)); (case hp => exact (Reps.one (show Kd.M (Kd.int .i64) _ _ _ t301 [.int .i64 t301] from rfl) (Reps.none _ _)))
                 intro v329 w81 ho82 hb hg_ hnew_
                 clear hg_ hnew_
                 (first | rw [← Ny328.out] at ho82 | (simp only [Int.reduceToNat] at ho82; rw [← Ny328.out] at ho82))
                 have n0_ := Aside0.mk (Kd.R_elder' (ZR HO_299002) (Kd.R_base ho82) hb)
                 have n1_ := Aside0.mk (Kd.R_elder' (ZR HO324) (Kd.R_base ho82) hb)
                 have n2_ := Aside0.mk (Kd.R_elder' (ZR HO327) (Kd.R_base ho82) hb)
                 have n3_ := Aside0.mk (Kd.R_lower (Kd.R_new' (Kd.R_new' (Kd.R_new' ho82 (Kd.R_lt (ZR HO_299002))) (Kd.R_lt (ZR HO324))) (Kd.R_lt (ZR HO327))) (below_size ZB))
                 have n4_ := ZL BK294 hb
                 have n5_ := ZL BK295 hb
                 have n6_ := ZL BK298 hb
                 have n7_ := Aside0.mk (below_step ZB hb)
                 clear HO_299002
                 clear HO324
                 clear HO327
                 clear BK294
                 clear BK295
                 clear BK298
                 clear HB
                 have HO_299002 := n0_
                 have HO324 := n1_
                 have HO327 := n2_
                 have HO330 := n3_
                 have BK294 := n4_
                 have BK295 := n5_
                 have BK298 := n6_
                 have HB := n7_
                 clear n0_ n1_ n2_ n3_ n4_ n5_ n6_ n7_
                 clear hb ho82
                 refine hK.out _ _ ⟨(blk_cell BK298.out 0).trans rfl, (blk_cell BK298.out 1).trans rfl, (blk_cell BK298.out 2).trans rfl⟩ (fun hHeld => ?_)
                 clear hK K
                 refine norm_ (a' := ?_) ?_ ?_
                 rotate_left
                 ·show Act.put _ (some 78) _ = _
                  simp only [Act.put, List.setIfInBounds_toArray, List.set_cons_zero, List.set_cons_succ, i64_w, i32_w]
                  rfl
                 exact norm_ (by simp only [putAll, Act.put, List.setIfInBounds_toArray, List.set_cons_zero, List.set_cons_succ]) (hCont (.slice Ao80 y322.length co80, v326, v329) _ ⟨hHeld, (by refine ZQ ?_; exact Kd.R_mono HO324.out (fun _ hk => (And.intro (hk.1.2) ((And.intro (hk.2) (hk.1.1)))))), (by refine ZQ ?_; exact Kd.R_mono HO327.out (fun _ hk => (And.intro (hk.1.2) ((And.intro (hk.2) (hk.1.1)))))), (by refine ZQ ?_; exact Kd.R_mono HO330.out (fun _ hk => (And.intro (hk.1.2) ((And.intro (hk.2) (hk.1.1.2)))))), (by refine ZQ ?_; exact Kd.R_mono HO_299002.out (fun _ hk => (And.intro (hk.1.1) ((And.intro (hk.1.2) (hk.2)))))), (ZK BK294), (ZK BK295), (ZK BK298), ZB⟩)
                ·skip
                 refine Kd.R_lit_step (Kd.int .i64) _ 2 ?hg (N := 78) ?hd (xs := ([t301] : List Int)) (inner := [.int .i64 t301]) (ok := fun _ => True) (okp := fun _ => True) ?hr ?hp (fun _ hk => hk) trivial (Below.refl _ _) (Nat.le_refl _) (by simp) ?_; (case hd => rfl); (case hg => rfl); (case hr => first | (go_simp; done) | (go_simp; rfl)); (case hp => exact (Reps.one (show Kd.M (Kd.int .i64) _ _ _ t301 [.int .i64 t301] from rfl) (Reps.none _ _)))
                 intro v329 w79 ho80 hb hg_ hnew_
                 clear hg_ hnew_
                 (first | rw [← Ny328.out] at ho80 | (simp only [Int.reduceToNat] at ho80; rw [← Ny328.out] at ho80))
                 have n0_ := Aside0.mk (Kd.R_elder' (ZR HO_299001) (Kd.R_base ho80) hb)
                 have n1_ := Aside0.mk (Kd.R_elder' (ZR HO_299002) (Kd.R_base ho80) hb)
                 have n2_ := Aside0.mk (Kd.R_elder' (ZR HO324) (Kd.R_base ho80) hb)
                 have n3_ := Aside0.mk (Kd.R_lower (Kd.R_new' (Kd.R_new' (Kd.R_new' ho80 (Kd.R_lt (ZR HO_299001))) (Kd.R_lt (ZR HO_299002))) (Kd.R_lt (ZR HO324))) (below_size ZB))
                 have n4_ := ZL BK294 hb
                 have n5_ := ZL BK295 hb
                 have n6_ := ZL BK298 hb
                 have n7_ := Aside0.mk (below_step ZB hb)
                 clear HO_299001
                 clear HO_299002
                 clear HO324
                 clear BK294
                 clear BK295
                 clear BK298
                 clear HB
                 have HO_299001 := n0_
                 have HO_299002 := n1_
                 have HO324 := n2_
                 have HO330 := n3_
                 have BK294 := n4_
                 have BK295 := n5_
                 have BK298 := n6_
                 have HB := n7_
                 clear n0_ n1_ n2_ n3_ n4_ n5_ n6_ n7_
                 clear hb ho80
                 obtain ⟨Ao82, co82, eo82⟩ := Kd.R_slice HO324.out
                 (first | subst eo82 | (injection eo82 with f1_ f2_ f3_; have f4_ := f1_.symm; have f5_ := f3_.symm; clear f1_ f2_ f3_; subst f4_; subst f5_))
                 refine hK.out _ _ ⟨(blk_cell BK298.out 0).trans rfl, (blk_cell BK298.out 1).trans rfl, (blk_cell BK298.out 2).trans rfl⟩ (fun hHeld => ?_)
                 clear hK K
                 refine norm_ (a' := ?_) ?_ ?_
                 rotate_left
                 ·show Act.put _ (some 78) _ = _
                  simp only [Act.put, List.setIfInBounds_toArray, List.set_cons_zero, List.set_cons_succ, i64_w, i32_w]
                  rfl
                 refine one_ (i := 10) (N := some 74) #[true, true, true, true, true, true, true, true, true, true, true, true, true, true, true, false, false, false, false, false] rfl rfl (one_of HT_.out (by kernel_rfl)) (by decide) (fun K hK => ?_)
                 refine Kd.R_append_rows_step (Kd.int .i64) (w0 := w) w.heap.size (by rfl) (.tmp 65) (.tmp 73) 22 2 (.int .i64 0) 8 rfl Try.underlying22 info2 rfl (by decide) (by omega) (.slice Ao74 x299001_1.length co74) x299001_1 y322 _ _ _ (fun k_ => some k_ ≠ (.slice Ao75 x299002_1.length co75 : Value).ownBlock ∧ some k_ ≠ (.slice Ao82 y322.length co82 : Value).ownBlock ∧ some k_ ≠ (v329 : Value).ownBlock) (fun _ => False) rfl rfl ?aO ?aR (fun _ _ h => h) (fun _ h => h.elim) ?aF ?aB ?aS ?aL ?_
                 (case aR => repeat (first | exact (Kd.R_reads' HO324.out).2.2 | (with_reducible refine Kd.C_alloc ?_ _) | (with_reducible refine Kd.C_drewN ?_ _) | (with_reducible refine Kd.C_drew ?_)))
                 (case aB => exact ZB)
                 (case aF => exact (fun k_ hk => ⟨Kd.fresh' (Kd.R_lt (ZR HO_299002)) k_ hk, Kd.fresh' (Kd.R_lt (ZR HO324)) k_ hk, Kd.fresh' (Kd.R_lt (ZR HO330)) k_ hk⟩))
                 (case aO => exact (by refine ZQ ?_; exact Kd.R_mono HO_299001.out (fun _ hk => (And.intro (hk.1.1) ((And.intro (hk.1.2) (hk.2)))))))
                 (case aS => exact (below_size ZB))
                 (case aL => have := LMc69.out; omega)
                 intro v326 w81 ho hb hg hat
                 rw [← Ny325.out] at ho
                 have n0_ := Aside0.mk (Kd.R_after (ok := (fun k_ => some k_ ≠ (.slice Ao82 y322.length co82 : Value).ownBlock ∧ some k_ ≠ (v329 : Value).ownBlock)) (by refine ZQ ?_; exact Kd.R_mono HO_299002.out (fun _ hk => (And.intro ((And.intro (hk.1.2) (hk.2))) (hk.1.1)))) hg hat)
                 have n1_ := Aside0.mk (blk_grown (ZK BK294) hg (Kd.R_ne HO_299001.out BK294.out (by decide)))
                 have n2_ := Aside0.mk (blk_grown (ZK BK295) hg (Kd.R_ne HO_299001.out BK295.out (by decide)))
                 have n3_ := Aside0.mk (blk_grown (ZK BK298) hg (Kd.R_ne HO_299001.out BK298.out (by decide)))
                 have n4_ := Aside0.mk (Kd.R_after (ok := (fun k_ => some k_ ≠ (.slice Ao75 x299002_1.length co75 : Value).ownBlock ∧ some k_ ≠ (v329 : Value).ownBlock)) (by refine ZQ ?_; exact Kd.R_mono HO324.out (fun _ hk => (And.intro ((And.intro (hk.1.2) (hk.2))) (hk.1.1.2)))) hg hat)
                 have n5_ := Aside0.mk (Kd.R_after (ok := (fun k_ => some k_ ≠ (.slice Ao75 x299002_1.length co75 : Value).ownBlock ∧ some k_ ≠ (.slice Ao82 y322.length co82 : Value).ownBlock)) (by refine ZQ ?_; exact Kd.R_mono HO330.out (fun _ hk => (And.intro ((And.intro (hk.1.2) (hk.2))) (hk.1.1.2)))) hg hat)
                 have n6_ := Aside0.mk (hb)
                 have n7_ := Aside0.mk (ho)
                 clear HO_299002
                 clear BK294
                 clear BK295
                 clear BK298
                 clear HO324
                 clear HO330
                 clear HB
                 clear HO_299001
                 have HO_299002 := n0_
                 have BK294 := n1_
                 have BK295 := n2_
                 have BK298 := n3_
                 have HO324 := n4_
                 have HO330 := n5_
                 have HB := n6_
                 have HO327 := n7_
                 clear n0_ n1_ n2_ n3_ n4_ n5_ n6_ n7_
                 clear ho hb hg hat
                 refine hK.out _ _ ⟨(blk_cell BK298.out 0).trans rfl, (blk_cell BK298.out 1).trans rfl, (blk_cell BK298.out 2).trans rfl⟩ (fun hHeld => ?_)
                 clear hK K
                 refine norm_ (a' := ?_) ?_ ?_
                 rotate_left
                 ·show Act.put _ (some 74) _ = _
                  simp only [Act.put, List.setIfInBounds_toArray, List.set_cons_zero, List.set_cons_succ, i64_w, i32_w]
                  rfl
                 refine Zpt 16 (some 80) (h := ?_)
                 exact norm_ (by simp only [putAll, Act.put, List.setIfInBounds_toArray, List.set_cons_zero, List.set_cons_succ]) (hCont (.slice Ao82 y322.length co82, v326, v329) _ ⟨hHeld, (by refine ZQ ?_; exact Kd.R_mono HO324.out (fun _ hk => (And.intro (hk.2) ((And.intro (hk.1.2) (hk.1.1)))))), (by refine ZQ ?_; exact Kd.R_mono HO327.out (fun _ hk => (And.intro (hk.2.1) ((And.intro (hk.2.2) (hk.1)))))), (by refine ZQ ?_; exact Kd.R_mono HO330.out (fun _ hk => (And.intro (hk.1.2) ((And.intro (hk.2) (hk.1.1)))))), (by refine ZQ ?_; exact Kd.R_mono HO_299002.out (fun _ hk => (And.intro (hk.1.1) ((And.intro (hk.2) (hk.1.2)))))), (ZK BK294), (ZK BK295), (ZK BK298), ZB⟩)
               ·skip
                refine Kd.R_lit_step (Kd.int .i64) _ 2 ?hg (N := 78) ?hd (xs := ([t301] : List Int)) (inner := [.int .i64 t301]) (ok := fun _ => True) (okp := fun _ => True) ?hr ?hp (fun _ hk => hk) trivial (Below.refl _ _) (Nat.le_refl _) (by simp) ?_; (case hd => rfl); (case hg => rfl); (case hr => first | (go_simp; done) | (go_simp; rfl)); (case hp => exact (Reps.one (show Kd.M (Kd.int .i64) _ _ _ t301 [.int .i64 t301] from rfl) (Reps.none _ _)))
                intro v329 w77 ho78 hb hg_ hnew_
                clear hg_ hnew_
                (first | rw [← Ny328.out] at ho78 | (simp only [Int.reduceToNat] at ho78; rw [← Ny328.out] at ho78))
                have n0_ := Aside0.mk (Kd.R_elder' (ZR HO_299001) (Kd.R_base ho78) hb)
                have n1_ := Aside0.mk (Kd.R_elder' (ZR HO_299002) (Kd.R_base ho78) hb)
                have n2_ := Aside0.mk (Kd.R_lower (Kd.R_new' (Kd.R_new' ho78 (Kd.R_lt (ZR HO_299001))) (Kd.R_lt (ZR HO_299002))) (below_size ZB))
                have n3_ := ZL BK294 hb
                have n4_ := ZL BK295 hb
                have n5_ := ZL BK298 hb
                have n6_ := Aside0.mk (below_step ZB hb)
                clear HO_299001
                clear HO_299002
                clear BK294
                clear BK295
                clear BK298
                clear HB
                have HO_299001 := n0_
                have HO_299002 := n1_
                have HO330 := n2_
                have BK294 := n3_
                have BK295 := n4_
                have BK298 := n5_
                have HB := n6_
                clear n0_ n1_ n2_ n3_ n4_ n5_ n6_
                clear hb ho78
                refine hK.out _ _ ⟨(blk_cell BK298.out 0).trans rfl, (blk_cell BK298.out 1).trans rfl, (blk_cell BK298.out 2).trans rfl⟩ (fun hHeld => ?_)
                clear hK K
                refine norm_ (a' := ?_) ?_ ?_
                rotate_left
                ·show Act.put _ (some 78) _ = _
                 simp only [Act.put, List.setIfInBounds_toArray, List.set_cons_zero, List.set_cons_succ, i64_w, i32_w]
                 rfl
                refine one_ (i := 9) (N := some 73) #[true, true, true, true, true, true, true, true, true, true, false, true, true, true, true, false, false, false, false, false] rfl rfl (one_of HT_.out (by kernel_rfl)) (by decide) (fun K hK => ?_)
                refine Kd.R_lit_step (Kd.int .i64) _ 2 ?hg (N := 73) ?hd (xs := ([t321] : List Int)) (inner := [.int .i64 t321]) (ok := fun _ => True) (okp := fun _ => True) ?hr ?hp (fun _ hk => hk) trivial (Below.refl _ _) (Nat.le_refl _) (by simp) ?_; (case hd => rfl); (case hg => rfl); (case hr => first | (go_simp; done) | (go_simp; rfl)); (case hp => exact (Reps.one (show Kd.M (Kd.int .i64) _ _ _ t321 [.int .i64 t321] from rfl) (Reps.none _ _)))
                intro v323 w79 ho80 hb hg_ hnew_
                clear hg_ hnew_
                (first | rw [← Ny322.out] at ho80 | (simp only [Int.reduceToNat] at ho80; rw [← Ny322.out] at ho80))
                have n0_ := Aside0.mk (Kd.R_elder' (ZR HO_299001) (Kd.R_base ho80) hb)
                have n1_ := Aside0.mk (Kd.R_elder' (ZR HO_299002) (Kd.R_base ho80) hb)
                have n2_ := Aside0.mk (Kd.R_elder' (ZR HO330) (Kd.R_base ho80) hb)
                have n3_ := Aside0.mk (Kd.R_lower (Kd.R_new' (Kd.R_new' (Kd.R_new' ho80 (Kd.R_lt (ZR HO_299001))) (Kd.R_lt (ZR HO_299002))) (Kd.R_lt (ZR HO330))) (below_size ZB))
                have n4_ := ZL BK294 hb
                have n5_ := ZL BK295 hb
                have n6_ := ZL BK298 hb
                have n7_ := Aside0.mk (below_step ZB hb)
                clear HO_299001
                clear HO_299002
                clear HO330
                clear BK294
                clear BK295
                clear BK298
                clear HB
                have HO_299001 := n0_
                have HO_299002 := n1_
                have HO330 := n2_
                have HO324 := n3_
                have BK294 := n4_
                have BK295 := n5_
                have BK298 := n6_
                have HB := n7_
                clear n0_ n1_ n2_ n3_ n4_ n5_ n6_ n7_
                clear hb ho80
                obtain ⟨Ao82, co82, eo82⟩ := Kd.R_slice HO324.out
                (first | subst eo82 | (injection eo82 with f1_ f2_ f3_; have f4_ := f1_.symm; have f5_ := f3_.symm; clear f1_ f2_ f3_; subst f4_; subst f5_))
                refine hK.out _ _ ⟨(blk_cell BK298.out 0).trans rfl, (blk_cell BK298.out 1).trans rfl, (blk_cell BK298.out 2).trans rfl⟩ (fun hHeld => ?_)
                clear hK K
                refine norm_ (a' := ?_) ?_ ?_
                rotate_left
                ·show Act.put _ (some 73) _ = _
                 simp only [Act.put, List.setIfInBounds_toArray, List.set_cons_zero, List.set_cons_succ, i64_w, i32_w]
                 rfl
                refine one_ (i := 10) (N := some 74) #[true, true, true, true, true, true, true, true, true, true, true, true, true, true, true, false, false, false, false, false] rfl rfl (one_of HT_.out (by kernel_rfl)) (by decide) (fun K hK => ?_)
                refine Kd.R_append_rows_step (Kd.int .i64) (w0 := w) w.heap.size (by rfl) (.tmp 65) (.tmp 73) 22 2 (.int .i64 0) 8 rfl Try.underlying22 info2 rfl (by decide) (by omega) (.slice Ao74 x299001_1.length co74) x299001_1 y322 _ _ _ (fun k_ => some k_ ≠ (.slice Ao75 x299002_1.length co75 : Value).ownBlock ∧ some k_ ≠ (v329 : Value).ownBlock ∧ some k_ ≠ (.slice Ao82 y322.length co82 : Value).ownBlock) (fun _ => False) rfl rfl ?aO ?aR (fun _ _ h => h) (fun _ h => h.elim) ?aF ?aB ?aS ?aL ?_
                (case aR => repeat (first | exact (Kd.R_reads' HO324.out).2.2 | (with_reducible refine Kd.C_alloc ?_ _) | (with_reducible refine Kd.C_drewN ?_ _) | (with_reducible refine Kd.C_drew ?_)))
                (case aB => exact ZB)
                (case aF => exact (fun k_ hk => ⟨Kd.fresh' (Kd.R_lt (ZR HO_299002)) k_ hk, Kd.fresh' (Kd.R_lt (ZR HO330)) k_ hk, Kd.fresh' (Kd.R_lt (ZR HO324)) k_ hk⟩))
                (case aO => exact (by refine ZQ ?_; exact Kd.R_mono HO_299001.out (fun _ hk => (And.intro (hk.1.1) ((And.intro (hk.1.2) (hk.2)))))))
                (case aS => exact (below_size ZB))
                (case aL => have := LMc69.out; omega)
                intro v326 w81 ho hb hg hat
                rw [← Ny325.out] at ho
                have n0_ := Aside0.mk (Kd.R_after (ok := (fun k_ => some k_ ≠ (v329 : Value).ownBlock ∧ some k_ ≠ (.slice Ao82 y322.length co82 : Value).ownBlock)) (by refine ZQ ?_; exact Kd.R_mono HO_299002.out (fun _ hk => (And.intro ((And.intro (hk.1.2) (hk.2))) (hk.1.1)))) hg hat)
                have n1_ := Aside0.mk (blk_grown (ZK BK294) hg (Kd.R_ne HO_299001.out BK294.out (by decide)))
                have n2_ := Aside0.mk (blk_grown (ZK BK295) hg (Kd.R_ne HO_299001.out BK295.out (by decide)))
                have n3_ := Aside0.mk (blk_grown (ZK BK298) hg (Kd.R_ne HO_299001.out BK298.out (by decide)))
                have n4_ := Aside0.mk (Kd.R_after (ok := (fun k_ => some k_ ≠ (.slice Ao75 x299002_1.length co75 : Value).ownBlock ∧ some k_ ≠ (.slice Ao82 y322.length co82 : Value).ownBlock)) (by refine ZQ ?_; exact Kd.R_mono HO330.out (fun _ hk => (And.intro ((And.intro (hk.1.2) (hk.2))) (hk.1.1.2)))) hg hat)
                have n5_ := Aside0.mk (Kd.R_after (ok := (fun k_ => some k_ ≠ (.slice Ao75 x299002_1.length co75 : Value).ownBlock ∧ some k_ ≠ (v329 : Value).ownBlock)) (by refine ZQ ?_; exact Kd.R_mono HO324.out (fun _ hk => (And.intro ((And.intro (hk.1.2) (hk.2))) (hk.1.1.2)))) hg hat)
                have n6_ := Aside0.mk (hb)
                have n7_ := Aside0.mk (ho)
                clear HO_299002
                clear BK294
                clear BK295
                clear BK298
                clear HO330
                clear HO324
                clear HB
                clear HO_299001
                have HO_299002 := n0_
                have BK294 := n1_
                have BK295 := n2_
                have BK298 := n3_
                have HO330 := n4_
                have HO324 := n5_
                have HB := n6_
                have HO327 := n7_
                clear n0_ n1_ n2_ n3_ n4_ n5_ n6_ n7_
                clear ho hb hg hat
                refine hK.out _ _ ⟨(blk_cell BK298.out 0).trans rfl, (blk_cell BK298.out 1).trans rfl, (blk_cell BK298.out 2).trans rfl⟩ (fun hHeld => ?_)
                clear hK K
                refine norm_ (a' := ?_) ?_ ?_
                rotate_left
                ·show Act.put _ (some 74) _ = _
                 simp only [Act.put, List.setIfInBounds_toArray, List.set_cons_zero, List.set_cons_succ, i64_w, i32_w]
                 rfl
                refine Zpt 16 (some 80) (h := ?_)
                exact norm_ (by simp only [putAll, Act.put, List.setIfInBounds_toArray, List.set_cons_zero, List.set_cons_succ]) (hCont (.slice Ao82 y322.length co82, v326, v329) _ ⟨hHeld, (by refine ZQ ?_; exact Kd.R_mono HO324.out (fun _ hk => (And.intro (hk.2) ((And.intro (hk.1.2) (hk.1.1)))))), (by refine ZQ ?_; exact Kd.R_mono HO327.out (fun _ hk => (And.intro (hk.2.2) ((And.intro (hk.2.1) (hk.1)))))), (by refine ZQ ?_; exact Kd.R_mono HO330.out (fun _ hk => (And.intro (hk.1.2) ((And.intro (hk.2) (hk.1.1)))))), (by refine ZQ ?_; exact Kd.R_mono HO_299002.out (fun _ hk => (And.intro (hk.1.2) ((And.intro (hk.2) (hk.1.1)))))), (ZK BK294), (ZK BK295), (ZK BK298), ZB⟩)
              ·skip
               refine Kd.R_lit_step (Kd.int .i64) _ 2 ?hg (N := 78) ?hd (xs := ([t301] : List Int)) (inner := [.int .i64 t301]) (ok := fun _ => True) (okp := fun _ => True) ?hr ?hp (fun _ hk => hk) trivial (Below.refl _ _) (Nat.le_refl _) (by simp) ?_; (case hd => rfl); (case hg => rfl); (case hr => first | (go_simp; done) | (go_simp; rfl)); (case hp => exact (Reps.one (show Kd.M (Kd.int .i64) _ _ _ t301 [.int .i64 t301] from rfl) (Reps.none _ _)))
               intro v329 w77 ho78 hb hg_ hnew_
               clear hg_ hnew_
               (first | rw [← Ny328.out] at ho78 | (simp only [Int.reduceToNat] at ho78; rw [← Ny328.out] at ho78))
               have n0_ := Aside0.mk (Kd.R_elder' (ZR HO_299001) (Kd.R_base ho78) hb)
               have n1_ := Aside0.mk (Kd.R_elder' (ZR HO_299002) (Kd.R_base ho78) hb)
               have n2_ := Aside0.mk (Kd.R_lower (Kd.R_new' (Kd.R_new' ho78 (Kd.R_lt (ZR HO_299001))) (Kd.R_lt (ZR HO_299002))) (below_size ZB))
               have n3_ := ZL BK294 hb
               have n4_ := ZL BK295 hb
               have n5_ := ZL BK298 hb
               have n6_ := Aside0.mk (below_step ZB hb)
               clear HO_299001
               clear HO_299002
               clear BK294
               clear BK295
               clear BK298
               clear HB
               have HO_299001 := n0_
               have HO_299002 := n1_
               have HO330 := n2_
               have BK294 := n3_
               have BK295 := n4_
               have BK298 := n5_
               have HB := n6_
               clear n0_ n1_ n2_ n3_ n4_ n5_ n6_
               clear hb ho78
               refine hK.out _ _ ⟨(blk_cell BK298.out 0).trans rfl, (blk_cell BK298.out 1).trans rfl, (blk_cell BK298.out 2).trans rfl⟩ (fun hHeld => ?_)
               clear hK K
               refine norm_ (a' := ?_) ?_ ?_
               rotate_left
               ·show Act.put _ (some 78) _ = _
                simp only [Act.put, List.setIfInBounds_toArray, List.set_cons_zero, List.set_cons_succ, i64_w, i32_w]
                rfl
               refine one_ (i := 8) (N := some 72) #[true, true, true, true, true, true, true, true, true, false, false, true, true, true, true, false, false, false, false, false] rfl rfl (one_of HT_.out (by kernel_rfl)) (by decide) (fun K hK => ?_)
               refine goes_ Try.func97 (by kernel_rfl) rfl #[.int .i64 t296, .int .i64 (wrap64 ((wrap64 (t300 + t320)) + a1))] (by rfl) rfl rfl ZA ?_
               with_reducible refine (impl_field_mod.calls t296 (wrap64 ((wrap64 (t300 + t320)) + a1)) t321 _ A68.out).mono ?_
               rintro e w' ⟨rfl, ⟨nd, rfl⟩⟩
               refine ⟨_, rfl, ?_⟩
               refine hK.out _ _ ⟨(blk_cell BK298.out 0).trans rfl, (blk_cell BK298.out 1).trans rfl, (blk_cell BK298.out 2).trans rfl⟩ (fun hHeld => ?_)
               clear hK K
               refine norm_ (a' := ?_) ?_ ?_
               rotate_left
               ·show Act.put _ (some 72) _ = _
                simp only [Act.put, List.setIfInBounds_toArray, List.set_cons_zero, List.set_cons_succ, i64_w, i32_w]
                rfl
               refine one_ (i := 9) (N := some 73) #[true, true, true, true, true, true, true, true, true, true, false, true, true, true, true, false, false, false, false, false] rfl rfl (one_of HT_.out (by kernel_rfl)) (by decide) (fun K hK => ?_)
               refine Kd.R_lit_step (Kd.int .i64) _ 2 ?hg (N := 73) ?hd (xs := ([t321] : List Int)) (inner := [.int .i64 t321]) (ok := fun _ => True) (okp := fun _ => True) ?hr ?hp (fun _ hk => hk) trivial (Below.refl _ _) (Nat.le_refl _) (by simp) ?_; (case hd => rfl); (case hg => rfl); (case hr => first | (go_simp; done) | (go_simp; rfl)); (case hp => exact (Reps.one (show Kd.M (Kd.int .i64) _ _ _ t321 [.int .i64 t321] from rfl) (Reps.none _ _)))
               intro v323 w79 ho80 hb hg_ hnew_
               clear hg_ hnew_
               (first | rw [← Ny322.out] at ho80 | (simp only [Int.reduceToNat] at ho80; rw [← Ny322.out] at ho80))
               have n0_ := Aside0.mk (Kd.R_elder' (ZR HO_299001) (Kd.R_base ho80) hb)
               have n1_ := Aside0.mk (Kd.R_elder' (ZR HO_299002) (Kd.R_base ho80) hb)
               have n2_ := Aside0.mk (Kd.R_elder' (ZR HO330) (Kd.R_base ho80) hb)
               have n3_ := Aside0.mk (Kd.R_lower (Kd.R_new' (Kd.R_new' (Kd.R_new' ho80 (Kd.R_lt (ZR HO_299001))) (Kd.R_lt (ZR HO_299002))) (Kd.R_lt (ZR HO330))) (below_size ZB))
               have n4_ := ZL BK294 hb
               have n5_ := ZL BK295 hb
               have n6_ := ZL BK298 hb
               have n7_ := Aside0.mk (below_step ZB hb)
               clear HO_299001
               clear HO_299002
               clear HO330
               clear BK294
               clear BK295
               clear BK298
               clear HB
               have HO_299001 := n0_
               have HO_299002 := n1_
               have HO330 := n2_
               have HO324 := n3_
               have BK294 := n4_
               have BK295 := n5_
               have BK298 := n6_
               have HB := n7_
               clear n0_ n1_ n2_ n3_ n4_ n5_ n6_ n7_
               clear hb ho80
               obtain ⟨Ao82, co82, eo82⟩ := Kd.R_slice HO324.out
               (first | subst eo82 | (injection eo82 with f1_ f2_ f3_; have f4_ := f1_.symm; have f5_ := f3_.symm; clear f1_ f2_ f3_; subst f4_; subst f5_))
               refine hK.out _ _ ⟨(blk_cell BK298.out 0).trans rfl, (blk_cell BK298.out 1).trans rfl, (blk_cell BK298.out 2).trans rfl⟩ (fun hHeld => ?_)
               clear hK K
               refine norm_ (a' := ?_) ?_ ?_
               rotate_left
               ·show Act.put _ (some 73) _ = _
                simp only [Act.put, List.setIfInBounds_toArray, List.set_cons_zero, List.set_cons_succ, i64_w, i32_w]
                rfl
               refine one_ (i := 10) (N := some 74) #[true, true, true, true, true, true, true, true, true, true, true, true, true, true, true, false, false, false, false, false] rfl rfl (one_of HT_.out (by kernel_rfl)) (by decide) (fun K hK => ?_)
               refine Kd.R_append_rows_step (Kd.int .i64) (w0 := w) w.heap.size (by rfl) (.tmp 65) (.tmp 73) 22 2 (.int .i64 0) 8 rfl Try.underlying22 info2 rfl (by decide) (by omega) (.slice Ao74 x299001_1.length co74) x299001_1 y322 _ _ _ (fun k_ => some k_ ≠ (.slice Ao75 x299002_1.length co75 : Value).ownBlock ∧ some k_ ≠ (v329 : Value).ownBlock ∧ some k_ ≠ (.slice Ao82 y322.length co82 : Value).ownBlock) (fun _ => False) rfl rfl ?aO ?aR (fun _ _ h => h) (fun _ h => h.elim) ?aF ?aB ?aS ?aL ?_
               (case aR => repeat (first | exact (Kd.R_reads' HO324.out).2.2 | (with_reducible refine Kd.C_alloc ?_ _) | (with_reducible refine Kd.C_drewN ?_ _) | (with_reducible refine Kd.C_drew ?_)))
               (case aB => exact ZB)
               (case aF => exact (fun k_ hk => ⟨Kd.fresh' (Kd.R_lt (ZR HO_299002)) k_ hk, Kd.fresh' (Kd.R_lt (ZR HO330)) k_ hk, Kd.fresh' (Kd.R_lt (ZR HO324)) k_ hk⟩))
               (case aO => exact (by refine ZQ ?_; exact Kd.R_mono HO_299001.out (fun _ hk => (And.intro (hk.1.1) ((And.intro (hk.1.2) (hk.2)))))))
               (case aS => exact (below_size ZB))
               (case aL => have := LMc69.out; omega)
               intro v326 w81 ho hb hg hat
               rw [← Ny325.out] at ho
               have n0_ := Aside0.mk (Kd.R_after (ok := (fun k_ => some k_ ≠ (v329 : Value).ownBlock ∧ some k_ ≠ (.slice Ao82 y322.length co82 : Value).ownBlock)) (by refine ZQ ?_; exact Kd.R_mono HO_299002.out (fun _ hk => (And.intro ((And.intro (hk.1.2) (hk.2))) (hk.1.1)))) hg hat)
               have n1_ := Aside0.mk (blk_grown (ZK BK294) hg (Kd.R_ne HO_299001.out BK294.out (by decide)))
               have n2_ := Aside0.mk (blk_grown (ZK BK295) hg (Kd.R_ne HO_299001.out BK295.out (by decide)))
               have n3_ := Aside0.mk (blk_grown (ZK BK298) hg (Kd.R_ne HO_299001.out BK298.out (by decide)))
               have n4_ := Aside0.mk (Kd.R_after (ok := (fun k_ => some k_ ≠ (.slice Ao75 x299002_1.length co75 : Value).ownBlock ∧ some k_ ≠ (.slice Ao82 y322.length co82 : Value).ownBlock)) (by refine ZQ ?_; exact Kd.R_mono HO330.out (fun _ hk => (And.intro ((And.intro (hk.1.2) (hk.2))) (hk.1.1.2)))) hg hat)
               have n5_ := Aside0.mk (Kd.R_after (ok := (fun k_ => some k_ ≠ (.slice Ao75 x299002_1.length co75 : Value).ownBlock ∧ some k_ ≠ (v329 : Value).ownBlock)) (by refine ZQ ?_; exact Kd.R_mono HO324.out (fun _ hk => (And.intro ((And.intro (hk.1.2) (hk.2))) (hk.1.1.2)))) hg hat)
               have n6_ := Aside0.mk (hb)
               have n7_ := Aside0.mk (ho)
               clear HO_299002
               clear BK294
               clear BK295
               clear BK298
               clear HO330
               clear HO324
               clear HB
               clear HO_299001
               have HO_299002 := n0_
               have BK294 := n1_
               have BK295 := n2_
               have BK298 := n3_
               have HO330 := n4_
               have HO324 := n5_
               have HB := n6_
               have HO327 := n7_
               clear n0_ n1_ n2_ n3_ n4_ n5_ n6_ n7_
               clear ho hb hg hat
               refine hK.out _ _ ⟨(blk_cell BK298.out 0).trans rfl, (blk_cell BK298.out 1).trans rfl, (blk_cell BK298.out 2).trans rfl⟩ (fun hHeld => ?_)
               clear hK K
               refine norm_ (a' := ?_) ?_ ?_
               rotate_left
               ·show Act.put _ (some 74) _ = _
                simp only [Act.put, List.setIfInBounds_toArray, List.set_cons_zero, List.set_cons_succ, i64_w, i32_w]
                rfl
               refine Zpt 16 (some 80) (h := ?_)
               exact norm_ (by simp only [putAll, Act.put, List.setIfInBounds_toArray, List.set_cons_zero, List.set_cons_succ]) (hCont (.slice Ao82 y322.length co82, v326, v329) _ ⟨hHeld, (by refine ZQ ?_; exact Kd.R_mono HO324.out (fun _ hk => (And.intro (hk.2) ((And.intro (hk.1.2) (hk.1.1)))))), (by refine ZQ ?_; exact Kd.R_mono HO327.out (fun _ hk => (And.intro (hk.2.2) ((And.intro (hk.2.1) (hk.1)))))), (by refine ZQ ?_; exact Kd.R_mono HO330.out (fun _ hk => (And.intro (hk.1.2) ((And.intro (hk.2) (hk.1.1)))))), (by refine ZQ ?_; exact Kd.R_mono HO_299002.out (fun _ hk => (And.intro (hk.1.2) ((And.intro (hk.2) (hk.1.1)))))), (ZK BK294), (ZK BK295), (ZK BK298), ZB⟩)
             rintro ⟨v323, v326, v329⟩ w83 ⟨hS_, h0_, h1_, h2_, h3_, h4_, h5_, h6_, h7_⟩
             have n0_ : Aside0 (Kd.R (Kd.int .i64) 2 w83 w.heap.size (fun k_ => some k_ ≠ (v326 : Value).ownBlock ∧ some k_ ≠ (v329 : Value).ownBlock ∧ some k_ ≠ (.slice Ao75 x299002_1.length co75 : Value).ownBlock) v323 y322) := ⟨h0_⟩
             have n1_ : Aside0 (Kd.R (Kd.int .i64) 2 w83 w.heap.size (fun k_ => some k_ ≠ (v323 : Value).ownBlock ∧ some k_ ≠ (v329 : Value).ownBlock ∧ some k_ ≠ (.slice Ao75 x299002_1.length co75 : Value).ownBlock) v326 y325) := ⟨h1_⟩
             have n2_ : Aside0 (Kd.R (Kd.int .i64) 2 w83 w.heap.size (fun k_ => some k_ ≠ (v323 : Value).ownBlock ∧ some k_ ≠ (v326 : Value).ownBlock ∧ some k_ ≠ (.slice Ao75 x299002_1.length co75 : Value).ownBlock) v329 y328) := ⟨h2_⟩
             have n3_ : Aside0 (Kd.R (Kd.int .i64) 2 w83 w.heap.size (fun k_ => some k_ ≠ (v323 : Value).ownBlock ∧ some k_ ≠ (v326 : Value).ownBlock ∧ some k_ ≠ (v329 : Value).ownBlock) (.slice Ao75 x299002_1.length co75) x299002_1) := ⟨h3_⟩
             have n4_ : Aside0 (w83.heap[gb294]? = some (.cells #[.int .i64 a0_0, .slice (some ad299) l0_1.length c0_1, .slice (some ad319) l0_2.length c0_2] 29 (0, 0))) := ⟨h4_⟩
             have n5_ : Aside0 (w83.heap[gb295]? = some (.cells #[.int .i64 x296000_1, .slice none 0 0, .slice none 0 0] 29 (0, 0))) := ⟨h5_⟩
             have n6_ : Aside0 (w83.heap[gb298]? = some (.cells #[.int .i64 a0_0, .slice Ao74 x299001_1.length co74, .slice Ao75 x299002_1.length co75] 29 (0, 0))) := ⟨h6_⟩
             have n7_ : Aside0 (Below w.heap.size w w83) := ⟨h7_⟩
             clear HO_299001
             clear HO_299002
             clear BK294
             clear BK295
             clear BK298
             clear HB
             clear h0_ h1_ h2_ h3_ h4_ h5_ h6_ h7_
             have HO324 := n0_
             have HO327 := n1_
             have HO330 := n2_
             have HO_299002 := n3_
             have BK294 := n4_
             have BK295 := n5_
             have BK298 := n6_
             have HB := n7_
             clear n0_ n1_ n2_ n3_ n4_ n5_ n6_ n7_
             have hHeld : w83.cell? ⟨gb298, 0, none⟩ = some (.int .i64 a0_0) ∧ w83.cell? ⟨gb298, 1, none⟩ = some (.slice Ao74 x299001_1.length co74) ∧ w83.cell? ⟨gb298, 2, none⟩ = some (.slice Ao75 x299002_1.length co75) := hS_
             obtain ⟨Ao85, co85, eo85⟩ := Kd.R_slice HO330.out
             (first | subst eo85 | (injection eo85 with f1_ f2_ f3_; have f4_ := f1_.symm; have f5_ := f3_.symm; clear f1_ f2_ f3_; subst f4_; subst f5_))
             refine norm_ (a' := ?_) ?_ ?_
             rotate_left
             ·simp only [putAll, Act.put, List.setIfInBounds_toArray, List.set_cons_zero, List.set_cons_succ]
              rfl
             refine one_ (i := 15) (N := some 79) #[true, true, true, true, true, true, true, true, true, true, true, true, true, true, true, true, true, false, false, false] rfl rfl (one_of HT_.out (by kernel_rfl)) (by decide) (fun K hK => ?_)
             refine Kd.R_append_rows_step (Kd.int .i64) (w0 := w) w.heap.size (by rfl) (.tmp 76) (.tmp 78) 22 2 (.int .i64 0) 8 rfl Try.underlying22 info2 rfl (by decide) (by omega) (.slice Ao75 x299002_1.length co75) x299002_1 y328 _ _ _ (fun k_ => some k_ ≠ (v323 : Value).ownBlock ∧ some k_ ≠ (v326 : Value).ownBlock ∧ some k_ ≠ (.slice Ao85 y328.length co85 : Value).ownBlock) (fun _ => False) rfl rfl ?aO ?aR (fun _ _ h => h) (fun _ h => h.elim) ?aF ?aB ?aS ?aL ?_
             (case aR => repeat (first | exact (Kd.R_reads' HO330.out).2.2 | (with_reducible refine Kd.C_alloc ?_ _) | (with_reducible refine Kd.C_drewN ?_ _) | (with_reducible refine Kd.C_drew ?_)))
             (case aB => exact ZB)
             (case aF => exact (fun k_ hk => ⟨Kd.fresh' (Kd.R_lt (ZR HO324)) k_ hk, Kd.fresh' (Kd.R_lt (ZR HO327)) k_ hk, Kd.fresh' (Kd.R_lt (ZR HO330)) k_ hk⟩))
             (case aO => exact (ZR HO_299002))
             (case aS => exact (below_size ZB))
             (case aL => have := LMc70.out; omega)
             intro v332 w84 ho hb hg hat
             rw [← Ny331.out] at ho
             have n0_ := Aside0.mk (blk_grown (ZK BK294) hg (Kd.R_ne HO_299002.out BK294.out (by decide)))
             have n1_ := Aside0.mk (blk_grown (ZK BK295) hg (Kd.R_ne HO_299002.out BK295.out (by decide)))
             have n2_ := Aside0.mk (blk_grown (ZK BK298) hg (Kd.R_ne HO_299002.out BK298.out (by decide)))
             have n3_ := Aside0.mk (Kd.R_after (ok := (fun k_ => some k_ ≠ (v326 : Value).ownBlock ∧ some k_ ≠ (.slice Ao85 y328.length co85 : Value).ownBlock)) (by refine ZQ ?_; exact Kd.R_mono HO324.out (fun _ hk => (And.intro ((And.intro (hk.1) (hk.2.1))) (hk.2.2)))) hg hat)
             have n4_ := Aside0.mk (Kd.R_after (ok := (fun k_ => some k_ ≠ (v323 : Value).ownBlock ∧ some k_ ≠ (.slice Ao85 y328.length co85 : Value).ownBlock)) (by refine ZQ ?_; exact Kd.R_mono HO327.out (fun _ hk => (And.intro ((And.intro (hk.1) (hk.2.1))) (hk.2.2)))) hg hat)
             have n5_ := Aside0.mk (Kd.R_after (ok := (fun k_ => some k_ ≠ (v323 : Value).ownBlock ∧ some k_ ≠ (v326 : Value).ownBlock)) (by refine ZQ ?_; exact Kd.R_mono HO330.out (fun _ hk => (And.intro ((And.intro (hk.1) (hk.2.1))) (hk.2.2)))) hg hat)
             have n6_ := Aside0.mk (hb)
             have n7_ := Aside0.mk (ho)
             clear BK294
             clear BK295
             clear BK298
             clear HO324
             clear HO327
             clear HO330
             clear HB
             clear HO_299002
             have BK294 := n0_
             have BK295 := n1_
             have BK298 := n2_
             have HO324 := n3_
             have HO327 := n4_
             have HO330 := n5_
             have HB := n6_
             have HO333 := n7_
             clear n0_ n1_ n2_ n3_ n4_ n5_ n6_ n7_
             clear ho hb hg hat
             obtain ⟨Ao86, co86, eo86⟩ := Kd.R_slice HO327.out
             (first | subst eo86 | (injection eo86 with f1_ f2_ f3_; have f4_ := f1_.symm; have f5_ := f3_.symm; clear f1_ f2_ f3_; subst f4_; subst f5_))
             obtain ⟨Ao88, co88, eo88⟩ := Kd.R_slice HO333.out
             (first | subst eo88 | (injection eo88 with f1_ f2_ f3_; have f4_ := f1_.symm; have f5_ := f3_.symm; clear f1_ f2_ f3_; subst f4_; subst f5_))
             refine hK.out _ _ ⟨(blk_cell BK298.out 0).trans rfl, (blk_cell BK298.out 1).trans rfl, (blk_cell BK298.out 2).trans rfl⟩ (fun hHeld => ?_)
             clear hK K
             refine norm_ (a' := ?_) ?_ ?_
             rotate_left
             ·show Act.put _ (some 79) _ = _
              simp only [Act.put, List.setIfInBounds_toArray, List.set_cons_zero, List.set_cons_succ, i64_w, i32_w]
              rfl
             refine last_ (i := 17) (N := none) #[true, true, true, true, true, true, true, true, true, true, true, true, true, true, true, true, true, true, false, false] rfl rfl (one_of HT_.out (by kernel_rfl)) (by decide) (fun K hK => ?_)
             have hs87 : w84.cell? ⟨gb298, 1, none⟩ = some (.slice Ao74 x299001_1.length co74) := (blk_cell BK298.out 1).trans rfl
             have hfs87 := blk_frozen BK298.out 1
             have hns87_0 := NB294_298.out
             have hns87_1 := NB295_298.out
             have hms87_0 := NB298_294.out
             have hms87_1 := NB298_295.out
             refine skip_ (w1 := ?_) (by rfl) rfl ?_ ?_
             rotate_left
             ·go_simp
              rfl
             refine hK.out _ _ ?_
             clear hK K
             refine Zpt 18 (some 81) (h := ?_)
             refine last_ (i := 19) (N := none) #[true, true, true, true, true, true, true, true, true, true, true, true, true, true, true, true, true, true, true, true] rfl rfl (one_of HT_.out (by kernel_rfl)) (by decide) (fun K hK => ?_)
             have hs89 : w84.cell? ⟨gb298, 2, none⟩ = some (.slice Ao75 x299002_1.length co75) := (blk_cell BK298.out 2).trans rfl
             have hfs89 := blk_frozen BK298.out 2
             have hns89_0 := NB294_298.out
             have hns89_1 := NB295_298.out
             have hms89_0 := NB298_294.out
             have hms89_1 := NB298_295.out
             refine skip_ (w1 := ?_) (by rfl) rfl ?_ ?_
             rotate_left
             ·go_simp
              rfl
             refine hK.out _ _ ?_
             clear hK K
             refine done_ (done_of HT_.out (by kernel_rfl)) ?_
             try go_wp2
             go_roundg k1
             case measure => have := HK1.out; omega
             case rel => exact ⟨(t320), (ji64), (x296000_1), (y325), (y331), (.slice Ao86 y325.length co86), (.slice Ao88 y331.length co88), (by first | rfl | (simp; done) | (simp [*]; done)), (by first | rfl | (simp; done) | (simp only [← hji64] <;> (first | rfl | simp)) | (simp [*]; done)), H', ⟨by have := HK1.out; omega⟩, ⟨by refine ZQ ?_; exact Kd.R_mono (Kd.R_far (p := ⟨gb298, 2, none⟩) (Kd.R_far (p := ⟨gb298, 1, none⟩) (Kd.R_types HO327.out BK298.out (by decide)) (fun _ hk => hk.2) (.slice Ao86 y325.length co86)) (fun _ hk => hk.2) (.slice Ao88 y331.length co88)) (fun _ hk => hk.1.2)⟩, ⟨by refine ZQ ?_; exact Kd.R_mono (Kd.R_far (p := ⟨gb298, 2, none⟩) (Kd.R_far (p := ⟨gb298, 1, none⟩) (Kd.R_types HO333.out BK298.out (by decide)) (fun _ hk => hk.2) (.slice Ao86 y325.length co86)) (fun _ hk => hk.2) (.slice Ao88 y331.length co88)) (fun _ hk => hk.1.2.1)⟩, ⟨by refine ZS ?_; refine blk_far ?_ NB294_298.out _; refine ZS ?_; refine blk_far ?_ NB294_298.out _; refine ZS ?_; exact BK294.out⟩, ⟨by refine ZS ?_; refine blk_far ?_ NB295_298.out _; refine ZS ?_; refine blk_far ?_ NB295_298.out _; refine ZS ?_; exact BK295.out⟩, ⟨by refine ZS ?_; refine blk_put (cs := #[.int .i64 a0_0, .slice Ao86 y325.length co86, .slice Ao75 x299002_1.length co75]) ?_ 2 _ rfl; refine ZS ?_; refine blk_put (cs := #[.int .i64 a0_0, .slice Ao74 x299001_1.length co74, .slice Ao75 x299002_1.length co75]) ?_ 1 _ rfl; refine ZS ?_; exact BK298.out⟩, ⟨ZB⟩⟩
            ·rw [if_neg c70] at H
             exact absurd H (by simp)
           ·rw [if_neg c69] at H
            exact absurd H (by simp)
          ·rw [if_neg c66] at H
           exact absurd H (by simp)
         ·rw [if_neg c65] at H
          exact absurd H (by simp)
      ·rw [if_neg c26] at H
       exact absurd H (by simp)
     ·rw [if_neg c25] at H
      exact absurd H (by simp)
    ·rw [if_neg c24] at H
     have c24b0 : decide (x25_1 < (wrap64 (t297 - 1))) = false := decide_eq_false c24
     clear c24
     simp only [Option.some.injEq, Prod.mk.injEq] at H
     obtain ⟨rfl, rfl, rfl, rfl⟩ := H
     have hnb90 := NB298_294.out
     have hnc90 := NB294_298.out
     have hnb91 := NB298_295.out
     have hnc91 := NB295_298.out
     obtain ⟨hcz92_0, hcz92_1, hcz92_2, hfz92_0, hfz92_1, hfz92_2⟩ := ZD3 BK298
     have hnb93 := NB295_294.out
     have hnc93 := NB294_295.out
     obtain ⟨hcz94_0, hcz94_1, hcz94_2, hfz94_0, hfz94_1, hfz94_2⟩ := ZD3 BK295
     obtain ⟨Ao95, co95, eo95⟩ := Kd.R_slice HO_299001.out
     subst eo95
     obtain ⟨Ao96, co96, eo96⟩ := Kd.R_slice HO_299002.out
     subst eo96
     go_wp2
     refine bodyPost_ret (results_ct rfl _ _ gb295 29 #[.int .i64 a0_0, .slice Ao95 x299001_1.length co95, .slice Ao96 x299002_1.length co96] (0, 0) _ rfl (by refine ZS ?_; refine blk_put (cs := #[.int .i64 a0_0, .slice Ao95 x299001_1.length co95, .slice none 0 0]) ?_ 2 _ rfl; refine ZS ?_; refine blk_put (cs := #[.int .i64 a0_0, .slice none 0 0, .slice none 0 0]) ?_ 1 _ rfl; refine ZS ?_; refine blk_put (cs := #[.int .i64 x296000_1, .slice none 0 0, .slice none 0 0]) ?_ 0 _ rfl; refine ZS ?_; exact BK295.out) Try.underlying29 rfl (by kernel_rfl)) rfl ?_
     exact ⟨_, _, by first | rfl | (simp [errW_none, errW_some] <;> rfl) | (simp [*, errW_none, errW_some] <;> rfl), by refine ZQ ?_; exact Kd.R_mono (Kd.R_far (p := ⟨gb295, 2, none⟩) (Kd.R_far (p := ⟨gb295, 1, none⟩) (Kd.R_far (p := ⟨gb295, 0, none⟩) (Kd.R_types HO_299001.out BK295.out (by decide)) (fun _ hk => hk.2) (.int .i64 a0_0)) (fun _ hk => hk.2) (.slice Ao95 x299001_1.length co95)) (fun _ hk => hk.2) (.slice Ao96 x299002_1.length co96)) (fun _ hk => hk.1), by refine ZQ ?_; exact Kd.R_mono (Kd.R_far (p := ⟨gb295, 2, none⟩) (Kd.R_far (p := ⟨gb295, 1, none⟩) (Kd.R_far (p := ⟨gb295, 0, none⟩) (Kd.R_types HO_299002.out BK295.out (by decide)) (fun _ hk => hk.2) (.int .i64 a0_0)) (fun _ hk => hk.2) (.slice Ao95 x299001_1.length co95)) (fun _ hk => hk.2) (.slice Ao96 x299002_1.length co96)) (fun _ hk => hk.1), ZB⟩

end Go.Proofs.Ytaclapojgdekpaa.X
