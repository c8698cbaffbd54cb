/- Contracts of functions that the law reaches, printed by a program of this session; Lean checks them. -/
import Derived.Test.YtaclapojgdekpaaCStepsOfJacobiX0
import Derived.Test.YtaclapojgdekpaaCStepsOfJacobiX13
import Derived.Test.YtaclapojgdekpaaCStepsOfJacobiX5
import Derived.Test.YtaclapojgdekpaaCStepsOfJacobiX7
import Derived.Test.YtaclapojgdekpaaCStepsOfJacobiXZ
namespace Go.Proofs.Ytaclapojgdekpaa.X
open Go.RowKit Go.Proofs.YtaclapojgdekpaaW.PrintWords Go.Proofs.YtaclapojgdekpaaW.PrintLast Go.Proofs.YtaclapojgdekpaaW.PrintMore
attribute [local go_sem] max2_int min2_int max_two min_two max_three min_three max_four min_four   -- for this text's walks alone
set_option linter.unusedVariables false
set_option linter.unusedSimpArgs false

/-! ### impl_Jacobi_step: function 66 -/
def impl_Jacobi_step.l0 : Nat → Int → Int → Int → Int → Int → Int → List Int → List Int → Int → List Int → List Int → Option (Int × List Int × List Int × Bool)
 | 0, _, _, _, _, _, _, _, _, _, _, _ => none
 | k + 1, x1, x6, x9, x24, x25, x365000, x365001, x365002, x369000, x369001, x369002 => if x25 < x24 then (if 0 ≤ x25 then (if x25 < (x365001.length : Int) then ((impl_field_mod.f x6 (wrap64 ((wrap64 ((rd x365001 x25) - x1)) - x9))).bind fun t370 => (if t370 = 0 then (some (0, ([] : List Int), ([] : List Int), false)) else ((impl_field_mul.f x6 t370 x9).bind fun t371 => (if x25 = 0 then (if 0 < (x365002.length : Int) then ((impl_field_mul.f x6 (rd x365002 0) t370).bind fun t373 => (if 0 ≤ (wrap64 (x25 + 1)) then (if (wrap64 (x25 + 1)) < (x365002.length : Int) then ((impl_field_div.f k x6 (rd x365002 (wrap64 (x25 + 1))) t370).bind fun t375 => ((impl_field_mod.f x6 (wrap64 ((wrap64 (t370 + t375)) + x1))).bind fun t376 => ((some (([t376] : List Int) : List Int)).bind fun y377 => (if x369001.length + y377.length < 17592186044416 then ((some (([t373] : List Int) : List Int)).bind fun y383 => (if x369002.length + y383.length < 17592186044416 then (impl_Jacobi_step.l0 k x1 x6 t375 x24 (wrap64 (x25 + 1)) x365000 x365001 x365002 x369000 (x369001 ++ y377) (x369002 ++ y383)) else (none))) else (none))))) else (none)) else (none))) else (none)) else (if 0 ≤ (wrap64 (x25 + 1)) then (if (wrap64 (x25 + 1)) < (x365002.length : Int) then ((impl_field_div.f k x6 (rd x365002 (wrap64 (x25 + 1))) t370).bind fun t390 => ((impl_field_mod.f x6 (wrap64 ((wrap64 (t370 + t390)) + x1))).bind fun t391 => ((some (([t391] : List Int) : List Int)).bind fun y392 => (if x369001.length + y392.length < 17592186044416 then ((some (([t371] : List Int) : List Int)).bind fun y398 => (if x369002.length + y398.length < 17592186044416 then (impl_Jacobi_step.l0 k x1 x6 t390 x24 (wrap64 (x25 + 1)) x365000 x365001 x365002 x369000 (x369001 ++ y392) (x369002 ++ y398)) else (none))) else (none))))) else (none)) else (none)))))) else (none)) else (none)) else (some (x369000, x369001, x369002, true))
def impl_Jacobi_step.f (k : Nat) (a0_0 : Int) (l0_1 : List Int) (l0_2 : List Int) (a1 : Int) : Option (Int × List Int × List Int × Bool) := (impl_Jacobi_field.f a0_0 l0_1 l0_2).bind fun t366 => ((impl_Jacobi_size.f a0_0 l0_1 l0_2).bind fun t367 => (if t367 < 2 then (some (0, ([] : List Int), ([] : List Int), false)) else (impl_Jacobi_step.l0 k a1 t366 0 (wrap64 (t367 - 1)) 0 a0_0 l0_1 l0_2 a0_0 ([] : List Int) ([] : List Int))))
theorem impl_Jacobi_step.mono_l : ∀ k, (∀ y0 y1 y2 y3 y4 y5 y6 y7 y8 y9 y10, LeO (impl_Jacobi_step.l0 k y0 y1 y2 y3 y4 y5 y6 y7 y8 y9 y10) (impl_Jacobi_step.l0 (k + 1) y0 y1 y2 y3 y4 y5 y6 y7 y8 y9 y10))
 | 0 => fun _ _ _ _ _ _ _ _ _ _ _ r h => by simp [impl_Jacobi_step.l0] at h
 | k + 1 => by
  have ih0 := impl_Jacobi_step.mono_l k
  ·intro y0 y1 y2 y3 y4 y5 y6 y7 y8 y9 y10
   unfold impl_Jacobi_step.l0
   repeat' first
   | (with_reducible exact ih0 _ _ _ _ _ _ _ _ _ _ _)
   | (with_reducible exact impl_field_div.mono _ _ _ _)
   | (with_reducible exact LeO.refl _)
   | (with_reducible exact LeO.none _)
   | (with_reducible refine LeO.ite ?_ ?_)
   | (with_reducible refine LeO.bind ?_ (fun _ => ?_))
   | exact ih0 _ _ _ _ _ _ _ _ _ _ _
   | exact impl_field_div.mono _ _ _ _
   | exact LeO.none _
   | refine LeO.ite ?_ ?_
   | refine LeO.bind ?_ (fun _ => ?_)
theorem impl_Jacobi_step.mono : ∀ a0 a1 a2 a3 k, LeO (impl_Jacobi_step.f k a0 a1 a2 a3) (impl_Jacobi_step.f (k + 1) a0 a1 a2 a3) := by
 intro a0 a1 a2 a3 k
 have ih0 := impl_Jacobi_step.mono_l k
 unfold impl_Jacobi_step.f
 repeat' first
   | (with_reducible exact ih0 _ _ _ _ _ _ _ _ _ _ _)
   | (with_reducible exact impl_field_div.mono _ _ _ _)
   | (with_reducible exact LeO.refl _)
   | (with_reducible exact LeO.none _)
   | (with_reducible refine LeO.ite ?_ ?_)
   | (with_reducible refine LeO.bind ?_ (fun _ => ?_))
   | exact ih0 _ _ _ _ _ _ _ _ _ _ _
   | exact impl_field_div.mono _ _ _ _
   | exact LeO.none _
   | refine LeO.ite ?_ ?_
   | refine LeO.bind ?_ (fun _ => ?_)
def impl_Jacobi_step.T16 : Bool × List (List Nat × List Nat) := (true, [([], []), ([0], [0]), ([], []), ([], []), ([], []), ([3, 4], [3, 4]), ([], []), ([5, 6], [5, 6]), ([2, 7], [2, 7]), ([8], [8]), ([1, 9, 8], [1, 9]), ([], []), ([11], [11]), ([], []), ([13], [13]), ([12, 14, 10], [12, 14]), ([0, 1, 2, 3, 4, 5, 6, 7, 8, 9, 10, 11, 12], []), ([16, 10, 15, 0, 1, 2, 3, 4, 5, 6, 7, 8, 9, 10, 11, 12], [10, 16]), ([0, 1, 2, 3, 4, 5, 6, 7, 8, 9, 10, 11, 12, 13, 14, 15, 16, 17], []), ([18, 15, 17, 0, 1, 2, 3, 4, 5, 6, 7, 8, 9, 10, 11, 12, 13, 14, 15, 16, 17], [15, 18])])
def impl_Jacobi_step.B16 : List Nat := [0, 1, 0, 0, 0, 24, 0, 120, 252, 508, 1023, 0, 2048, 0, 8192, 32767, 8191, 131071, 262143, 524287]
theorem impl_Jacobi_step.tab16 : rtab .any (opsOf Try.f66 16) = impl_Jacobi_step.T16 := by kernel_rfl
theorem impl_Jacobi_step.bits16 : waitsOk impl_Jacobi_step.T16.2 impl_Jacobi_step.B16 = true := by kernel_rfl
set_option maxHeartbeats 8000000 in
set_option maxRecDepth 100000 in
theorem impl_Jacobi_step.calls (k : Nat) (a0_0 : Int) (A0_1 : Option Addr) (c0_1 : Nat) (l0_1 : List Int) (A0_2 : Option Addr) (c0_2 : Nat) (l0_2 : List Int) (a1 : Int) (r1 : Int) (r2 : List Int) (r3 : List Int) (r4 : Bool) (w : World) (hr0_1 : Kd.C (Kd.int .i64) w A0_1 l0_1.length l0_1) (hc0_1 : l0_1.length ≤ c0_1) (hr0_2 : Kd.C (Kd.int .i64) w A0_2 l0_2.length l0_2) (hc0_2 : l0_2.length ≤ c0_2) (h : impl_Jacobi_step.f k a0_0 l0_1 l0_2 a1 = some (r1, r2, r3, r4)) :
  Calls Try.prog 66 #[.agg #[.int .i64 a0_0, .slice A0_1 l0_1.length c0_1, .slice A0_2 l0_2.length c0_2], .int .i64 a1] w fun e w' => ∃ v1_ v2_ : Value, e = .returned (.tuple #[.agg #[.int .i64 r1, v1_, v2_], .bool r4]) ∧ Kd.R (Kd.int .i64) 2 w' w.heap.size (fun k_ => some k_ ≠ (v2_ : Value).ownBlock) v1_ r2 ∧ Kd.R (Kd.int .i64) 2 w' w.heap.size (fun k_ => some k_ ≠ (v1_ : Value).ownBlock) v2_ r3 ∧ Below w.heap.size w w' := by
 have hu29 := Try.underlying29
 have HR0_1 := Aside0.mk hr0_1
 have HC0_1 := Aside0.mk hc0_1
 clear hr0_1 hc0_1
 have HR0_2 := Aside0.mk hr0_2
 have HC0_2 := Aside0.mk hc0_2
 clear hr0_2 hc0_2
 have HB := Aside0.mk (Below.refl w.heap.size w)
 have H : ((impl_Jacobi_field.f a0_0 l0_1 l0_2).bind fun t366 => ((impl_Jacobi_size.f a0_0 l0_1 l0_2).bind fun t367 => (if t367 < 2 then (some (0, ([] : List Int), ([] : List Int), false)) else (impl_Jacobi_step.l0 k a1 t366 0 (wrap64 (t367 - 1)) 0 a0_0 l0_1 l0_2 a0_0 ([] : List Int) ([] : List Int))))) = some (r1, r2, r3, r4) := h
 clear h
 replace H := Option.bind_eq_some_iff.mp H
 obtain ⟨t366, A30, H⟩ := H
 replace H : ((impl_Jacobi_size.f a0_0 l0_1 l0_2).bind fun t367 => (if t367 < 2 then (some (0, ([] : List Int), ([] : List Int), false)) else (impl_Jacobi_step.l0 k a1 t366 0 (wrap64 (t367 - 1)) 0 a0_0 l0_1 l0_2 a0_0 ([] : List Int) ([] : List Int)))) = some (r1, r2, r3, r4) := H
 have A3 := Aside0.mk A30
 clear A30
 replace H := Option.bind_eq_some_iff.mp H
 obtain ⟨t367, A40, H⟩ := H
 replace H : (if t367 < 2 then (some (0, ([] : List Int), ([] : List Int), false)) else (impl_Jacobi_step.l0 k a1 t366 0 (wrap64 (t367 - 1)) 0 a0_0 l0_1 l0_2 a0_0 ([] : List Int) ([] : List Int))) = some (r1, r2, r3, r4) := H
 have A4 := Aside0.mk A40
 clear A40
 by_cases c5 : t367 < 2
 ·rw [if_pos c5] at H
  have c5b0 : decide (t367 < 2) = true := decide_eq_true c5
  clear c5
  simp only [Option.some.injEq, Prod.mk.injEq] at H
  obtain ⟨rfl, rfl, rfl, rfl⟩ := H
  go_enter Try.func66, Try.ntmps66
  try go_wp2_with (first | ((with_reducible refine gate_dst (N := 2) rfl ?_); refine box_event ?hg (N := 2) ?hd (cs := #[.int .i64 a0_0, .slice A0_1 l0_1.length c0_1, .slice A0_2 l0_2.length c0_2]) (t := 29) ?hr ?_; (case hd => rfl); (case hg => rfl); (case hr => first | (go_simp; done) | (go_simp; rfl)); intro gb364 hg w6 hbox hb; have n0_ := Aside0.mk (below_step ZB hb); have n1_ := Aside0.mk (hbox); have n2_ := Aside0.mk ((ZG hg : w.heap.size ≤ gb364)); have n3_ := Aside0.mk ((ZG hg : w.heap.size ≤ gb364)); clear HB; have HB := n0_; have BK364 := n1_; have GW364 := n2_; have GE364 := n3_; clear n0_ n1_ n2_ n3_; clear hb hbox hg) | ((with_reducible refine gate_dst (N := 4) rfl ?_); refine box_event ?hg (N := 4) ?hd (cs := #[.int .i64 0, .slice none 0 0, .slice none 0 0]) (t := 29) ?hr ?_; (case hd => rfl); (case hg => rfl); (case hr => first | (go_simp; done) | (go_simp; rfl)); intro gb365 hg w7 hbox hb; have n0_ := ZL BK364 hb; have n1_ := Aside0.mk (below_step ZB hb); have n2_ := Aside0.mk (hbox); have n3_ := Aside0.mk ((ZG hg : w.heap.size ≤ gb365)); have n4_ := Aside0.mk ((ZG hg : w.heap.size ≤ gb365)); have n5_ := Aside0.mk ((ZN hg BK364 : gb364 ≠ gb365)); have n6_ := Aside0.mk ((ZM hg BK364 : gb365 ≠ gb364)); clear BK364; clear HB; have BK364 := n0_; have HB := n1_; have BK365 := n2_; have GW365 := n3_; have GE365 := n4_; have NB364_365 := n5_; have NB365_364 := n6_; clear n0_ n1_ n2_ n3_ n4_ n5_ n6_; clear hb hbox hg))
  have n0_ := Aside0.mk (blk_drew BK364.out)
  have n1_ := Aside0.mk (blk_drew BK365.out)
  have n2_ := Aside0.mk (below_drew1 HB.out)
  clear BK364
  clear BK365
  clear HB
  have BK364 := n0_
  have BK365 := n1_
  have HB := n2_
  clear n0_ n1_ n2_
  refine start_ (n := 6) (S := fun w' => w'.cell? ⟨gb364, 0, none⟩ = some (.int .i64 a0_0) ∧ w'.cell? ⟨gb364, 1, none⟩ = some (.slice A0_1 l0_1.length c0_1) ∧ w'.cell? ⟨gb364, 2, none⟩ = some (.slice A0_2 l0_2.length c0_2)) (ds := []) #[false, false, false, false, false, false] (by kernel_rfl) rfl rfl ⟨(blk_cell BK364.out 0).trans rfl, (blk_cell BK364.out 1).trans rfl, (blk_cell BK364.out 2).trans rfl⟩ (fun hHeld => ?_)
  generalize w7.drew = w8 at BK364 BK365 HB hHeld ⊢
  refine Zt3 0 (some 13) hHeld (h := ?_)
  refine Zt3 2 (some 15) hHeld (h := ?_)
  refine one_ (i := 1) (N := some 14) #[true, true, true, false, false, false] rfl rfl (by kernel_rfl) (by decide) (fun K hK => ?_)
  refine goes_ Try.func64 (by kernel_rfl) rfl #[.agg #[.int .i64 a0_0, .slice A0_1 l0_1.length c0_1, .slice A0_2 l0_2.length c0_2]] (by rfl) rfl rfl ZA ?_
  with_reducible refine (impl_Jacobi_field.calls a0_0 _ _ l0_1 _ _ l0_2 t366 _ ?side1 ?side2 ?side3 ?side4 A3.out).mono ?_
  (case side1 => exact ZC HR0_1)
  (case side2 => exact HC0_1.out)
  (case side3 => exact ZC HR0_2)
  (case side4 => exact HC0_2.out)
  rintro e w9 ⟨rfl, hb⟩
  refine ⟨_, rfl, ?_⟩
  have n0_ := ZL BK364 hb
  have n1_ := ZL BK365 hb
  have n2_ := Aside0.mk (below_step ZB hb)
  clear BK364
  clear BK365
  clear HB
  have BK364 := n0_
  have BK365 := n1_
  have HB := n2_
  clear n0_ n1_ n2_
  (try clear hb)
  (try clear hb2)
  (try clear hk)
  (try clear hi)
  refine hK.out _ _ ⟨(blk_cell BK364.out 0).trans rfl, (blk_cell BK364.out 1).trans rfl, (blk_cell BK364.out 2).trans rfl⟩ (fun hHeld => ?_)
  clear hK K
  refine norm_ (a' := ?_) ?_ ?_
  rotate_left
  ·show Act.put _ (some 14) _ = _
   simp only [Act.put, List.setIfInBounds_toArray, List.set_cons_zero, List.set_cons_succ, i64_w, i32_w]
   rfl
  refine one_ (i := 3) (N := some 16) #[true, true, true, true, false, false] rfl rfl (by kernel_rfl) (by decide) (fun K hK => ?_)
  refine goes_ Try.func59 (by kernel_rfl) rfl #[.agg #[.int .i64 a0_0, .slice A0_1 l0_1.length c0_1, .slice A0_2 l0_2.length c0_2]] (by rfl) rfl rfl ZA ?_
  with_reducible refine (impl_Jacobi_size.calls a0_0 _ _ l0_1 _ _ l0_2 t367 _ ?side1 ?side2 ?side3 ?side4 A4.out).mono ?_
  (case side1 => exact ZC HR0_1)
  (case side2 => exact HC0_1.out)
  (case side3 => exact ZC HR0_2)
  (case side4 => exact HC0_2.out)
  rintro e w10 ⟨rfl, hb⟩
  refine ⟨_, rfl, ?_⟩
  have n0_ := ZL BK364 hb
  have n1_ := ZL BK365 hb
  have n2_ := Aside0.mk (below_step ZB hb)
  clear BK364
  clear BK365
  clear HB
  have BK364 := n0_
  have BK365 := n1_
  have HB := n2_
  clear n0_ n1_ n2_
  (try clear hb)
  (try clear hb2)
  (try clear hk)
  (try clear hi)
  refine hK.out _ _ ⟨(blk_cell BK364.out 0).trans rfl, (blk_cell BK364.out 1).trans rfl, (blk_cell BK364.out 2).trans rfl⟩ (fun hHeld => ?_)
  clear hK K
  refine norm_ (a' := ?_) ?_ ?_
  rotate_left
  ·show Act.put _ (some 16) _ = _
   simp only [Act.put, List.setIfInBounds_toArray, List.set_cons_zero, List.set_cons_succ, i64_w, i32_w]
   rfl
  refine Zp 4 (some 6) (h := ?_)
  refine Zp 5 (some 7) (h := ?_)
  refine done_ (by kernel_rfl) ?_
  have hnb11 := NB365_364.out
  have hnc11 := NB364_365.out
  obtain ⟨hcz12_0, hcz12_1, hcz12_2, hfz12_0, hfz12_1, hfz12_2⟩ := ZD3 BK365
  try go_wp2
  refine bodyPost_ret (results_ct rfl _ _ gb365 29 #[.int .i64 0, .slice none 0 0, .slice none 0 0] (0, 0) _ rfl (by refine ZS ?_; refine blk_put (cs := #[.int .i64 0, .slice none 0 0, .slice none 0 0]) ?_ 2 _ rfl; refine ZS ?_; refine blk_put (cs := #[.int .i64 0, .slice none 0 0, .slice none 0 0]) ?_ 1 _ rfl; refine ZS ?_; refine blk_put (cs := #[.int .i64 0, .slice none 0 0, .slice none 0 0]) ?_ 0 _ rfl; refine ZS ?_; exact BK365.out) Try.underlying29 rfl (by kernel_rfl)) rfl ?_
  exact ⟨_, _, by first | rfl | (simp [errW_none, errW_some] <;> rfl) | (simp [*, errW_none, errW_some] <;> rfl), by first | exact Kd.R_nil _ _ _ _ _ | exact Kd.N_nil _ _ _ _ _ | exact Kd.V_nil _ _ _ _ _ | exact Kd.Q_nil _ _ _ _ _ | exact Kd.S_nil _ _ _ _ _, by first | exact Kd.R_nil _ _ _ _ _ | exact Kd.N_nil _ _ _ _ _ | exact Kd.V_nil _ _ _ _ _ | exact Kd.Q_nil _ _ _ _ _ | exact Kd.S_nil _ _ _ _ _, ZB⟩
 ·rw [if_neg c5] at H
  have c5b0 : decide (t367 < 2) = false := decide_eq_false c5
  clear c5
  have H' := Aside0.mk H
  clear H
  go_enter Try.func66, Try.ntmps66
  try go_wp2_with (first | ((with_reducible refine gate_dst (N := 2) rfl ?_); refine box_event ?hg (N := 2) ?hd (cs := #[.int .i64 a0_0, .slice A0_1 l0_1.length c0_1, .slice A0_2 l0_2.length c0_2]) (t := 29) ?hr ?_; (case hd => rfl); (case hg => rfl); (case hr => first | (go_simp; done) | (go_simp; rfl)); intro gb364 hg w13 hbox hb; have n0_ := Aside0.mk (below_step ZB hb); have n1_ := Aside0.mk (hbox); have n2_ := Aside0.mk ((ZG hg : w.heap.size ≤ gb364)); have n3_ := Aside0.mk ((ZG hg : w.heap.size ≤ gb364)); clear HB; have HB := n0_; have BK364 := n1_; have GW364 := n2_; have GE364 := n3_; clear n0_ n1_ n2_ n3_; clear hb hbox hg) | ((with_reducible refine gate_dst (N := 4) rfl ?_); refine box_event ?hg (N := 4) ?hd (cs := #[.int .i64 0, .slice none 0 0, .slice none 0 0]) (t := 29) ?hr ?_; (case hd => rfl); (case hg => rfl); (case hr => first | (go_simp; done) | (go_simp; rfl)); intro gb365 hg w14 hbox hb; have n0_ := ZL BK364 hb; have n1_ := Aside0.mk (below_step ZB hb); have n2_ := Aside0.mk (hbox); have n3_ := Aside0.mk ((ZG hg : w.heap.size ≤ gb365)); have n4_ := Aside0.mk ((ZG hg : w.heap.size ≤ gb365)); have n5_ := Aside0.mk ((ZN hg BK364 : gb364 ≠ gb365)); have n6_ := Aside0.mk ((ZM hg BK364 : gb365 ≠ gb364)); clear BK364; clear HB; have BK364 := n0_; have HB := n1_; have BK365 := n2_; have GW365 := n3_; have GE365 := n4_; have NB364_365 := n5_; have NB365_364 := n6_; clear n0_ n1_ n2_ n3_ n4_ n5_ n6_; clear hb hbox hg))
  have n0_ := Aside0.mk (blk_drew BK364.out)
  have n1_ := Aside0.mk (blk_drew BK365.out)
  have n2_ := Aside0.mk (below_drew1 HB.out)
  clear BK364
  clear BK365
  clear HB
  have BK364 := n0_
  have BK365 := n1_
  have HB := n2_
  clear n0_ n1_ n2_
  refine start_ (n := 6) (S := fun w' => w'.cell? ⟨gb364, 0, none⟩ = some (.int .i64 a0_0) ∧ w'.cell? ⟨gb364, 1, none⟩ = some (.slice A0_1 l0_1.length c0_1) ∧ w'.cell? ⟨gb364, 2, none⟩ = some (.slice A0_2 l0_2.length c0_2)) (ds := []) #[false, false, false, false, false, false] (by kernel_rfl) rfl rfl ⟨(blk_cell BK364.out 0).trans rfl, (blk_cell BK364.out 1).trans rfl, (blk_cell BK364.out 2).trans rfl⟩ (fun hHeld => ?_)
  generalize w14.drew = w15 at BK364 BK365 HB hHeld ⊢
  refine Zt3 0 (some 13) hHeld (h := ?_)
  refine Zt3 2 (some 15) hHeld (h := ?_)
  refine one_ (i := 1) (N := some 14) #[true, true, true, false, false, false] rfl rfl (by kernel_rfl) (by decide) (fun K hK => ?_)
  refine goes_ Try.func64 (by kernel_rfl) rfl #[.agg #[.int .i64 a0_0, .slice A0_1 l0_1.length c0_1, .slice A0_2 l0_2.length c0_2]] (by rfl) rfl rfl ZA ?_
  with_reducible refine (impl_Jacobi_field.calls a0_0 _ _ l0_1 _ _ l0_2 t366 _ ?side1 ?side2 ?side3 ?side4 A3.out).mono ?_
  (case side1 => exact ZC HR0_1)
  (case side2 => exact HC0_1.out)
  (case side3 => exact ZC HR0_2)
  (case side4 => exact HC0_2.out)
  rintro e w16 ⟨rfl, hb⟩
  refine ⟨_, rfl, ?_⟩
  have n0_ := ZL BK364 hb
  have n1_ := ZL BK365 hb
  have n2_ := Aside0.mk (below_step ZB hb)
  clear BK364
  clear BK365
  clear HB
  have BK364 := n0_
  have BK365 := n1_
  have HB := n2_
  clear n0_ n1_ n2_
  (try clear hb)
  (try clear hb2)
  (try clear hk)
  (try clear hi)
  refine hK.out _ _ ⟨(blk_cell BK364.out 0).trans rfl, (blk_cell BK364.out 1).trans rfl, (blk_cell BK364.out 2).trans rfl⟩ (fun hHeld => ?_)
  clear hK K
  refine norm_ (a' := ?_) ?_ ?_
  rotate_left
  ·show Act.put _ (some 14) _ = _
   simp only [Act.put, List.setIfInBounds_toArray, List.set_cons_zero, List.set_cons_succ, i64_w, i32_w]
   rfl
  refine one_ (i := 3) (N := some 16) #[true, true, true, true, false, false] rfl rfl (by kernel_rfl) (by decide) (fun K hK => ?_)
  refine goes_ Try.func59 (by kernel_rfl) rfl #[.agg #[.int .i64 a0_0, .slice A0_1 l0_1.length c0_1, .slice A0_2 l0_2.length c0_2]] (by rfl) rfl rfl ZA ?_
  with_reducible refine (impl_Jacobi_size.calls a0_0 _ _ l0_1 _ _ l0_2 t367 _ ?side1 ?side2 ?side3 ?side4 A4.out).mono ?_
  (case side1 => exact ZC HR0_1)
  (case side2 => exact HC0_1.out)
  (case side3 => exact ZC HR0_2)
  (case side4 => exact HC0_2.out)
  rintro e w17 ⟨rfl, hb⟩
  refine ⟨_, rfl, ?_⟩
  have n0_ := ZL BK364 hb
  have n1_ := ZL BK365 hb
  have n2_ := Aside0.mk (below_step ZB hb)
  clear BK364
  clear BK365
  clear HB
  have BK364 := n0_
  have BK365 := n1_
  have HB := n2_
  clear n0_ n1_ n2_
  (try clear hb)
  (try clear hb2)
  (try clear hk)
  (try clear hi)
  refine hK.out _ _ ⟨(blk_cell BK364.out 0).trans rfl, (blk_cell BK364.out 1).trans rfl, (blk_cell BK364.out 2).trans rfl⟩ (fun hHeld => ?_)
  clear hK K
  refine norm_ (a' := ?_) ?_ ?_
  rotate_left
  ·show Act.put _ (some 16) _ = _
   simp only [Act.put, List.setIfInBounds_toArray, List.set_cons_zero, List.set_cons_succ, i64_w, i32_w]
   rfl
  refine Zp 4 (some 6) (h := ?_)
  refine Zp 5 (some 7) (h := ?_)
  refine done_ (by kernel_rfl) ?_
  have hnb18 := NB364_365.out
  have hnc18 := NB365_364.out
  obtain ⟨hcz19_0, hcz19_1, hcz19_2, hfz19_0, hfz19_1, hfz19_2⟩ := ZD3 BK364
  try go_wp2_with (first | ((with_reducible refine gate_dst (N := 8) rfl ?_); refine box_event ?hg (N := 8) ?hd (cs := #[.int .i64 0, .slice none 0 0, .slice none 0 0]) (t := 29) ?hr ?_; (case hd => rfl); (case hg => rfl); (case hr => first | (go_simp; done) | (go_simp; rfl)); intro gb368 hg w20 hbox hb; have n0_ := ZL BK364 hb; have n1_ := ZL BK365 hb; have n2_ := Aside0.mk (below_step ZB hb); have n3_ := Aside0.mk (hbox); have n4_ := Aside0.mk ((ZG hg : w.heap.size ≤ gb368)); have n5_ := Aside0.mk ((ZG hg : w.heap.size ≤ gb368)); have n6_ := Aside0.mk ((ZN hg BK364 : gb364 ≠ gb368)); have n7_ := Aside0.mk ((ZM hg BK364 : gb368 ≠ gb364)); have n8_ := Aside0.mk ((ZN hg BK365 : gb365 ≠ gb368)); have n9_ := Aside0.mk ((ZM hg BK365 : gb368 ≠ gb365)); clear BK364; clear BK365; clear HB; have BK364 := n0_; have BK365 := n1_; have HB := n2_; have BK368 := n3_; have GW368 := n4_; have GE368 := n5_; have NB364_368 := n6_; have NB368_364 := n7_; have NB365_368 := n8_; have NB368_365 := n9_; clear n0_ n1_ n2_ n3_ n4_ n5_ n6_ n7_ n8_ n9_; clear hb hbox hg; have hnb21 := NB368_364.out; have hnc21 := NB364_368.out; have hnb22 := NB368_365.out; have hnc22 := NB365_368.out; obtain ⟨hcz23_0, hcz23_1, hcz23_2, hfz23_0, hfz23_1, hfz23_2⟩ := ZD3 BK368))
  go_loopg [9, 25] k (fun kq v9 v25 w' => ∃ (x9_1 : Int) (x25_1 : Int) (x366000_1 : Int) (x369001_1 : List Int) (x369002_1 : List Int) (u369001 : Value) (u369002 : Value), v9 = .int .i64 x9_1 ∧ v25 = .int .i64 x25_1 ∧ Aside0 (impl_Jacobi_step.l0 kq a1 t366 x9_1 (wrap64 (t367 - 1)) x25_1 a0_0 l0_1 l0_2 a0_0 x369001_1 x369002_1 = some (r1, r2, r3, r4)) ∧ Aside0 (kq ≤ k) ∧ Aside0 (Kd.R (Kd.int .i64) 2 w' w.heap.size (fun k_ => some k_ ≠ (u369002 : Value).ownBlock) u369001 x369001_1) ∧ Aside0 (Kd.R (Kd.int .i64) 2 w' w.heap.size (fun k_ => some k_ ≠ (u369001 : Value).ownBlock) u369002 x369002_1) ∧ Aside0 (w'.heap[gb364]? = some (.cells #[.int .i64 a0_0, (.slice A0_1 l0_1.length c0_1), (.slice A0_2 l0_2.length c0_2)] 29 (0, 0))) ∧ Aside0 (w'.heap[gb365]? = some (.cells #[.int .i64 x366000_1, (.slice none 0 0), (.slice none 0 0)] 29 (0, 0))) ∧ Aside0 (w'.heap[gb368]? = some (.cells #[.int .i64 a0_0, u369001, u369002] 29 (0, 0))) ∧ Aside0 (Below w.heap.size w w'))
  case atStart => exact ⟨(0), (0), (0), (([] : List Int)), (([] : List Int)), (.slice none 0 0), (.slice none 0 0), (by first | rfl | (simp; done) | (simp [*]; done)), (by first | rfl | (simp; done) | (simp [*]; done)), H', ⟨Nat.le_refl _⟩, ⟨by first | exact Kd.R_nil _ _ _ _ _ | exact Kd.N_nil _ _ _ _ _ | exact Kd.V_nil _ _ _ _ _ | exact Kd.Q_nil _ _ _ _ _ | exact Kd.S_nil _ _ _ _ _⟩, ⟨by first | exact Kd.R_nil _ _ _ _ _ | exact Kd.N_nil _ _ _ _ _ | exact Kd.V_nil _ _ _ _ _ | exact Kd.Q_nil _ _ _ _ _ | exact Kd.S_nil _ _ _ _ _⟩, ⟨by refine ZS ?_; refine blk_far ?_ NB364_368.out _; refine ZS ?_; refine blk_far ?_ NB364_368.out _; refine ZS ?_; refine blk_far ?_ NB364_368.out _; refine ZS ?_; exact BK364.out⟩, ⟨by refine ZS ?_; refine blk_far ?_ NB365_368.out _; refine ZS ?_; refine blk_far ?_ NB365_368.out _; refine ZS ?_; refine blk_far ?_ NB365_368.out _; refine ZS ?_; exact BK365.out⟩, ⟨by refine ZS ?_; refine blk_put (cs := #[.int .i64 a0_0, .slice none 0 0, .slice none 0 0]) ?_ 2 _ rfl; refine ZS ?_; refine blk_put (cs := #[.int .i64 a0_0, .slice none 0 0, .slice none 0 0]) ?_ 1 _ rfl; refine ZS ?_; refine blk_put (cs := #[.int .i64 0, .slice none 0 0, .slice none 0 0]) ?_ 0 _ rfl; refine ZS ?_; exact BK368.out⟩, ⟨ZB⟩⟩
  case round =>
   clear H'
   try clear c1
   try clear c2
   try clear p2
   try clear c5
   try clear c5b0
   try clear c6
   try clear p6
   try clear c11
   try clear c18
   try clear c21
   try clear c22
   try clear hcz12_0
   try clear hcz12_1
   try clear hcz12_2
   try clear hcz19_0
   try clear hcz19_1
   try clear hcz19_2
   try clear hcz23_0
   try clear hcz23_1
   try clear hcz23_2
   try clear hfz12_0
   try clear hfz12_1
   try clear hfz12_2
   try clear hfz19_0
   try clear hfz19_1
   try clear hfz19_2
   try clear hfz23_0
   try clear hfz23_1
   try clear hfz23_2
   obtain ⟨x9_1, x25_1, x366000_1, x369001_1, x369002_1, u369001, u369002, rfl, rfl, HA, HK1, HO_369001, HO_369002, BK364, BK365, BK368, HB⟩ := hrel
   cases gk with
   | zero => exact absurd HA.out (by simp [impl_Jacobi_step.l0])
   | succ k1 =>
    have H := HA.out
    clear HA
    simp only [impl_Jacobi_step.l0] at H
    by_cases c24 : x25_1 < (wrap64 (t367 - 1))
    ·rw [if_pos c24] at H
     have c24b0 : decide (x25_1 < (wrap64 (t367 - 1))) = true := decide_eq_true c24
     clear c24
     by_cases c25 : 0 ≤ x25_1
     ·rw [if_pos c25] at H
      have c25b0 : decide (0 ≤ x25_1) = true := decide_eq_true c25
      clear c25
      by_cases c26 : x25_1 < (l0_1.length : Int)
      ·rw [if_pos c26] at H
       have c26b0 : decide (x25_1 < (l0_1.length : Int)) = true := decide_eq_true c26
       clear c26
       replace H := Option.bind_eq_some_iff.mp H
       obtain ⟨t370, A270, H⟩ := H
       replace H : (if t370 = 0 then (some (0, ([] : List Int), ([] : List Int), false)) else ((impl_field_mul.f t366 t370 x9_1).bind fun t371 => (if x25_1 = 0 then (if 0 < (l0_2.length : Int) then ((impl_field_mul.f t366 (rd l0_2 0) t370).bind fun t373 => (if 0 ≤ (wrap64 (x25_1 + 1)) then (if (wrap64 (x25_1 + 1)) < (l0_2.length : Int) then ((impl_field_div.f k1 t366 (rd l0_2 (wrap64 (x25_1 + 1))) t370).bind fun t375 => ((impl_field_mod.f t366 (wrap64 ((wrap64 (t370 + t375)) + a1))).bind fun t376 => ((some (([t376] : List Int) : List Int)).bind fun y377 => (if x369001_1.length + y377.length < 17592186044416 then ((some (([t373] : List Int) : List Int)).bind fun y383 => (if x369002_1.length + y383.length < 17592186044416 then (impl_Jacobi_step.l0 k1 a1 t366 t375 (wrap64 (t367 - 1)) (wrap64 (x25_1 + 1)) a0_0 l0_1 l0_2 a0_0 (x369001_1 ++ y377) (x369002_1 ++ y383)) else (none))) else (none))))) else (none)) else (none))) else (none)) else (if 0 ≤ (wrap64 (x25_1 + 1)) then (if (wrap64 (x25_1 + 1)) < (l0_2.length : Int) then ((impl_field_div.f k1 t366 (rd l0_2 (wrap64 (x25_1 + 1))) t370).bind fun t390 => ((impl_field_mod.f t366 (wrap64 ((wrap64 (t370 + t390)) + a1))).bind fun t391 => ((some (([t391] : List Int) : List Int)).bind fun y392 => (if x369001_1.length + y392.length < 17592186044416 then ((some (([t371] : List Int) : List Int)).bind fun y398 => (if x369002_1.length + y398.length < 17592186044416 then (impl_Jacobi_step.l0 k1 a1 t366 t390 (wrap64 (t367 - 1)) (wrap64 (x25_1 + 1)) a0_0 l0_1 l0_2 a0_0 (x369001_1 ++ y392) (x369002_1 ++ y398)) else (none))) else (none))))) else (none)) else (none))))) = some (r1, r2, r3, r4) := H
       have A27 := Aside0.mk A270
       clear A270
       by_cases c28 : t370 = 0
       ·rw [if_pos c28] at H
        have c28b0 : (t370 == 0) = true := beq_iff_eq.mpr c28
        have c28b1 : (t370 != 0) = false := bne_eq_false_iff_eq.mpr c28
        clear c28
        simp only [Option.some.injEq, Prod.mk.injEq] at H
        obtain ⟨rfl, rfl, rfl, rfl⟩ := H
        have hnb29 := NB364_365.out
        have hnc29 := NB365_364.out
        have hnb30 := NB364_368.out
        have hnc30 := NB368_364.out
        obtain ⟨hcz31_0, hcz31_1, hcz31_2, hfz31_0, hfz31_1, hfz31_2⟩ := ZD3 BK364
        have p369 : 0 ≤ (x25_1 : Int) := of_decide_eq_true (by first | (with_reducible assumption) | assumption)
        have q369 : x25_1 < (l0_1.length : Int) := of_decide_eq_true (by first | (with_reducible assumption) | assumption)
        obtain ⟨ad369, e369, hx369_0⟩ := Kd.at_int HR0_1.out x25_1 p369 q369
        cases e369
        replace hx369_0 := (HB.out.cell (World.block_lt_of_cell? w _ hx369_0)).trans hx369_0
        replace p369 := eq_true p369
        replace q369 := eq_true q369
        go_wp2_with (first | ((with_reducible refine gate_callee (f := 97) rfl ?_); refine goesL_ (some 38) rfl rfl Try.func97 (by kernel_rfl) rfl #[.int .i64 t366, .int .i64 (wrap64 ((wrap64 ((rd l0_1 x25_1) - a1)) - x9_1))] rfl ZA ?_; (with_reducible refine (impl_field_mod.calls t366 (wrap64 ((wrap64 ((rd l0_1 x25_1) - a1)) - x9_1)) t370 _ A27.out).mono ?_); rintro e w' ⟨rfl, ⟨nd, rfl⟩⟩; refine ⟨_, rfl, ?_⟩; (try (rw [drewN_self wr]; generalize hq_ : World.drewN wr _ = wr; have n0_ : Aside0 (Kd.R (Kd.int .i64) 2 wr w.heap.size (fun k_ => some k_ ≠ (u369002 : Value).ownBlock) u369001 x369001_1) := ⟨by rw [← hq_]; exact (ZR HO_369001)⟩; have n1_ : Aside0 (Kd.R (Kd.int .i64) 2 wr w.heap.size (fun k_ => some k_ ≠ (u369001 : Value).ownBlock) u369002 x369002_1) := ⟨by rw [← hq_]; exact (ZR HO_369002)⟩; have n2_ : Aside0 (wr.heap[gb364]? = some (.cells #[.int .i64 a0_0, .slice (some ad369) l0_1.length c0_1, .slice A0_2 l0_2.length c0_2] 29 (0, 0))) := ⟨by rw [← hq_]; exact (ZK BK364)⟩; have n3_ : Aside0 (wr.heap[gb365]? = some (.cells #[.int .i64 x366000_1, .slice none 0 0, .slice none 0 0] 29 (0, 0))) := ⟨by rw [← hq_]; exact (ZK BK365)⟩; have n4_ : Aside0 (wr.heap[gb368]? = some (.cells #[.int .i64 a0_0, u369001, u369002] 29 (0, 0))) := ⟨by rw [← hq_]; exact (ZK BK368)⟩; have n5_ : Aside0 (Below w.heap.size w wr) := ⟨by rw [← hq_]; exact ZB⟩; clear HO_369001 HO_369002 BK364 BK365 BK368 HB hq_; have HO_369001 := n0_; have HO_369002 := n1_; have BK364 := n2_; have BK365 := n3_; have BK368 := n4_; have HB := n5_; clear n0_ n1_ n2_ n3_ n4_ n5_)); (try (obtain ⟨hcy364_0, hcy364_1, hcy364_2, hfy364_0, hfy364_1, hfy364_2⟩ := ZD3 BK364)); (try (obtain ⟨hcy365_0, hcy365_1, hcy365_2, hfy365_0, hfy365_1, hfy365_2⟩ := ZD3 BK365)); (try (obtain ⟨hcy368_0, hcy368_1, hcy368_2, hfy368_0, hfy368_1, hfy368_2⟩ := ZD3 BK368)); have hnb32 := NB365_368.out; have hnc32 := NB368_365.out; obtain ⟨hcz33_0, hcz33_1, hcz33_2, hfz33_0, hfz33_1, hfz33_2⟩ := ZD3 BK365))
        refine bodyPost_ret (results_ct rfl _ _ gb365 29 #[.int .i64 0, .slice none 0 0, .slice none 0 0] (0, 0) _ rfl (by refine ZS ?_; refine blk_put (cs := #[.int .i64 0, .slice none 0 0, .slice none 0 0]) ?_ 2 _ rfl; refine ZS ?_; refine blk_put (cs := #[.int .i64 0, .slice none 0 0, .slice none 0 0]) ?_ 1 _ rfl; refine ZS ?_; refine blk_put (cs := #[.int .i64 x366000_1, .slice none 0 0, .slice none 0 0]) ?_ 0 _ rfl; refine ZS ?_; exact BK365.out) Try.underlying29 rfl (by kernel_rfl)) rfl ?_
        exact ⟨_, _, by first | rfl | (simp [errW_none, errW_some] <;> rfl) | (simp [*, errW_none, errW_some] <;> rfl), by first | exact Kd.R_nil _ _ _ _ _ | exact Kd.N_nil _ _ _ _ _ | exact Kd.V_nil _ _ _ _ _ | exact Kd.Q_nil _ _ _ _ _ | exact Kd.S_nil _ _ _ _ _, by first | exact Kd.R_nil _ _ _ _ _ | exact Kd.N_nil _ _ _ _ _ | exact Kd.V_nil _ _ _ _ _ | exact Kd.Q_nil _ _ _ _ _ | exact Kd.S_nil _ _ _ _ _, ZB⟩
       ·rw [if_neg c28] at H
        have c28b0 : (t370 == 0) = false := beq_eq_false_iff_ne.mpr c28
        have c28b1 : (t370 != 0) = true := bne_iff_ne.mpr c28
        replace H := Option.bind_eq_some_iff.mp H
        obtain ⟨t371, A340, H⟩ := H
        replace H : (if x25_1 = 0 then (if 0 < (l0_2.length : Int) then ((impl_field_mul.f t366 (rd l0_2 0) t370).bind fun t373 => (if 0 ≤ (wrap64 (x25_1 + 1)) then (if (wrap64 (x25_1 + 1)) < (l0_2.length : Int) then ((impl_field_div.f k1 t366 (rd l0_2 (wrap64 (x25_1 + 1))) t370).bind fun t375 => ((impl_field_mod.f t366 (wrap64 ((wrap64 (t370 + t375)) + a1))).bind fun t376 => ((some (([t376] : List Int) : List Int)).bind fun y377 => (if x369001_1.length + y377.length < 17592186044416 then ((some (([t373] : List Int) : List Int)).bind fun y383 => (if x369002_1.length + y383.length < 17592186044416 then (impl_Jacobi_step.l0 k1 a1 t366 t375 (wrap64 (t367 - 1)) (wrap64 (x25_1 + 1)) a0_0 l0_1 l0_2 a0_0 (x369001_1 ++ y377) (x369002_1 ++ y383)) else (none))) else (none))))) else (none)) else (none))) else (none)) else (if 0 ≤ (wrap64 (x25_1 + 1)) then (if (wrap64 (x25_1 + 1)) < (l0_2.length : Int) then ((impl_field_div.f k1 t366 (rd l0_2 (wrap64 (x25_1 + 1))) t370).bind fun t390 => ((impl_field_mod.f t366 (wrap64 ((wrap64 (t370 + t390)) + a1))).bind fun t391 => ((some (([t391] : List Int) : List Int)).bind fun y392 => (if x369001_1.length + y392.length < 17592186044416 then ((some (([t371] : List Int) : List Int)).bind fun y398 => (if x369002_1.length + y398.length < 17592186044416 then (impl_Jacobi_step.l0 k1 a1 t366 t390 (wrap64 (t367 - 1)) (wrap64 (x25_1 + 1)) a0_0 l0_1 l0_2 a0_0 (x369001_1 ++ y392) (x369002_1 ++ y398)) else (none))) else (none))))) else (none)) else (none))) = some (r1, r2, r3, r4) := H
        have A34 := Aside0.mk A340
        clear A340
        by_cases c35 : x25_1 = 0
        ·rw [if_pos c35] at H
         have c35b0 : (x25_1 == 0) = true := beq_iff_eq.mpr c35
         have c35b1 : (x25_1 != 0) = false := bne_eq_false_iff_eq.mpr c35
         clear c35
         by_cases c36 : 0 < (l0_2.length : Int)
         ·rw [if_pos c36] at H
          have c36b0 : decide (0 < (l0_2.length : Int)) = true := decide_eq_true c36
          have c36b1 : decide (0 < l0_2.length) = true := decide_eq_true (by omega)
          clear c36
          replace H := Option.bind_eq_some_iff.mp H
          obtain ⟨t373, A370, H⟩ := H
          replace H : (if 0 ≤ (wrap64 (x25_1 + 1)) then (if (wrap64 (x25_1 + 1)) < (l0_2.length : Int) then ((impl_field_div.f k1 t366 (rd l0_2 (wrap64 (x25_1 + 1))) t370).bind fun t375 => ((impl_field_mod.f t366 (wrap64 ((wrap64 (t370 + t375)) + a1))).bind fun t376 => ((some (([t376] : List Int) : List Int)).bind fun y377 => (if x369001_1.length + y377.length < 17592186044416 then ((some (([t373] : List Int) : List Int)).bind fun y383 => (if x369002_1.length + y383.length < 17592186044416 then (impl_Jacobi_step.l0 k1 a1 t366 t375 (wrap64 (t367 - 1)) (wrap64 (x25_1 + 1)) a0_0 l0_1 l0_2 a0_0 (x369001_1 ++ y377) (x369002_1 ++ y383)) else (none))) else (none))))) else (none)) else (none)) = some (r1, r2, r3, r4) := H
          have A37 := Aside0.mk A370
          clear A370
          obtain ⟨ji38, hji38⟩ : ∃ j_ : Int, (wrap64 (x25_1 + 1)) = j_ := ⟨_, rfl⟩
          replace H : (if 0 ≤ (ji38) then (if (ji38) < (l0_2.length : Int) then ((impl_field_div.f k1 t366 (rd l0_2 (ji38)) t370).bind fun t375 => ((impl_field_mod.f t366 (wrap64 ((wrap64 (t370 + t375)) + a1))).bind fun t376 => ((some (([t376] : List Int) : List Int)).bind fun y377 => (if x369001_1.length + y377.length < 17592186044416 then ((some (([t373] : List Int) : List Int)).bind fun y383 => (if x369002_1.length + y383.length < 17592186044416 then (impl_Jacobi_step.l0 k1 a1 t366 t375 (wrap64 (t367 - 1)) ji38 a0_0 l0_1 l0_2 a0_0 (x369001_1 ++ y377) (x369002_1 ++ y383)) else (none))) else (none))))) else (none)) else (none)) = some (r1, r2, r3, r4) := by first | (rw [hji38] at H; exact H) | (simp only [hji38] at H ⊢; exact H)
          (try rw [hji38] at A27)
          (try rw [hji38] at A34)
          (try rw [hji38] at A37)
          have hji38w : (IntKind.i64.wrap (x25_1 + 1)) = ji38 := (i64_w _).trans hji38
          by_cases c39 : 0 ≤ (ji38)
          ·rw [if_pos c39] at H
           have c39b0 : decide (0 ≤ (ji38)) = true := decide_eq_true c39
           clear c39
           by_cases c40 : (ji38) < (l0_2.length : Int)
           ·rw [if_pos c40] at H
            have c40b0 : decide ((ji38) < (l0_2.length : Int)) = true := decide_eq_true c40
            clear c40
            replace H := Option.bind_eq_some_iff.mp H
            obtain ⟨t375, A410, H⟩ := H
            replace H : ((impl_field_mod.f t366 (wrap64 ((wrap64 (t370 + t375)) + a1))).bind fun t376 => ((some (([t376] : List Int) : List Int)).bind fun y377 => (if x369001_1.length + y377.length < 17592186044416 then ((some (([t373] : List Int) : List Int)).bind fun y383 => (if x369002_1.length + y383.length < 17592186044416 then (impl_Jacobi_step.l0 k1 a1 t366 t375 (wrap64 (t367 - 1)) ji38 a0_0 l0_1 l0_2 a0_0 (x369001_1 ++ y377) (x369002_1 ++ y383)) else (none))) else (none)))) = some (r1, r2, r3, r4) := H
            have A41 := Aside0.mk A410
            clear A410
            replace H := Option.bind_eq_some_iff.mp H
            obtain ⟨t376, A420, H⟩ := H
            replace H : ((some (([t376] : List Int) : List Int)).bind fun y377 => (if x369001_1.length + y377.length < 17592186044416 then ((some (([t373] : List Int) : List Int)).bind fun y383 => (if x369002_1.length + y383.length < 17592186044416 then (impl_Jacobi_step.l0 k1 a1 t366 t375 (wrap64 (t367 - 1)) ji38 a0_0 l0_1 l0_2 a0_0 (x369001_1 ++ y377) (x369002_1 ++ y383)) else (none))) else (none))) = some (r1, r2, r3, r4) := H
            have A42 := Aside0.mk A420
            clear A420
            obtain ⟨y377, hy377⟩ : ∃ y_ : List Int, y_ = (([t376] : List Int)) := ⟨_, rfl⟩
            replace H : (if x369001_1.length + y377.length < 17592186044416 then ((some (([t373] : List Int) : List Int)).bind fun y383 => (if x369002_1.length + y383.length < 17592186044416 then (impl_Jacobi_step.l0 k1 a1 t366 t375 (wrap64 (t367 - 1)) ji38 a0_0 l0_1 l0_2 a0_0 (x369001_1 ++ y377) (x369002_1 ++ y383)) else (none))) else (none)) = some (r1, r2, r3, r4) := by first | (rw [hy377]; with_reducible exact H) | (have H2_ := (Option.bind_some _ _).symm.trans H; rw [hy377]; with_reducible exact H2_) | (have H2_ := (Option.bind_some _ _).symm.trans H; with_reducible exact H2_) | with_reducible exact H | (rw [hy377]; exact H) | exact H
            have Ny377 := Aside0.mk hy377
            clear hy377
            by_cases c43 : x369001_1.length + y377.length < 17592186044416
            ·rw [if_pos c43] at H
             have LMc43 := Aside0.mk c43
             clear c43
             obtain ⟨y380, hy380⟩ : ∃ y_ : List Int, y_ = (x369001_1 ++ y377) := ⟨_, rfl⟩
             replace H : ((some (([t373] : List Int) : List Int)).bind fun y383 => (if x369002_1.length + y383.length < 17592186044416 then (impl_Jacobi_step.l0 k1 a1 t366 t375 (wrap64 (t367 - 1)) ji38 a0_0 l0_1 l0_2 a0_0 y380 (x369002_1 ++ y383)) else (none))) = some (r1, r2, r3, r4) := by first | (rw [hy380]; with_reducible exact H) | (have H2_ := (Option.bind_some _ _).symm.trans H; rw [hy380]; with_reducible exact H2_) | (have H2_ := (Option.bind_some _ _).symm.trans H; with_reducible exact H2_) | with_reducible exact H | (rw [hy380]; exact H) | exact H
             have Ny380 := Aside0.mk hy380
             clear hy380
             obtain ⟨y383, hy383⟩ : ∃ y_ : List Int, y_ = (([t373] : List Int)) := ⟨_, rfl⟩
             replace H : (if x369002_1.length + y383.length < 17592186044416 then (impl_Jacobi_step.l0 k1 a1 t366 t375 (wrap64 (t367 - 1)) ji38 a0_0 l0_1 l0_2 a0_0 y380 (x369002_1 ++ y383)) else (none)) = some (r1, r2, r3, r4) := by first | (rw [hy383]; with_reducible exact H) | (have H2_ := (Option.bind_some _ _).symm.trans H; rw [hy383]; with_reducible exact H2_) | (have H2_ := (Option.bind_some _ _).symm.trans H; with_reducible exact H2_) | with_reducible exact H | (rw [hy383]; exact H) | exact H
             have Ny383 := Aside0.mk hy383
             clear hy383
             by_cases c44 : x369002_1.length + y383.length < 17592186044416
             ·rw [if_pos c44] at H
              have LMc44 := Aside0.mk c44
              clear c44
              obtain ⟨y386, hy386⟩ : ∃ y_ : List Int, y_ = (x369002_1 ++ y383) := ⟨_, rfl⟩
              replace H : (impl_Jacobi_step.l0 k1 a1 t366 t375 (wrap64 (t367 - 1)) ji38 a0_0 l0_1 l0_2 a0_0 y380 y386) = some (r1, r2, r3, r4) := by first | (rw [hy386]; with_reducible exact H) | (have H2_ := (Option.bind_some _ _).symm.trans H; rw [hy386]; with_reducible exact H2_) | (have H2_ := (Option.bind_some _ _).symm.trans H; with_reducible exact H2_) | with_reducible exact H | (rw [hy386]; exact H) | exact H
              have Ny386 := Aside0.mk hy386
              clear hy386
              have H' := Aside0.mk H
              clear H
              have hnb45 := NB364_365.out
              have hnc45 := NB365_364.out
              have hnb46 := NB364_368.out
              have hnc46 := NB368_364.out
              obtain ⟨hcz47_0, hcz47_1, hcz47_2, hfz47_0, hfz47_1, hfz47_2⟩ := ZD3 BK364
              have p369 : 0 ≤ (x25_1 : Int) := of_decide_eq_true (by first | (with_reducible assumption) | assumption)
              have q369 : x25_1 < (l0_1.length : Int) := of_decide_eq_true (by first | (with_reducible assumption) | assumption)
              obtain ⟨ad369, e369, hx369_0⟩ := Kd.at_int HR0_1.out x25_1 p369 q369
              cases e369
              replace hx369_0 := (HB.out.cell (World.block_lt_of_cell? w _ hx369_0)).trans hx369_0
              replace p369 := eq_true p369
              replace q369 := eq_true q369
              try go_wp2_with (first | ((with_reducible refine gate_callee (f := 97) rfl ?_); refine goesL_ (some 38) rfl rfl Try.func97 (by kernel_rfl) rfl #[.int .i64 t366, .int .i64 (wrap64 ((wrap64 ((rd l0_1 x25_1) - a1)) - x9_1))] rfl ZA ?_; (with_reducible refine (impl_field_mod.calls t366 (wrap64 ((wrap64 ((rd l0_1 x25_1) - a1)) - x9_1)) t370 _ A27.out).mono ?_); rintro e w' ⟨rfl, ⟨nd, rfl⟩⟩; refine ⟨_, rfl, ?_⟩; (try (rw [drewN_self wr]; generalize hq_ : World.drewN wr _ = wr; have n0_ : Aside0 (Kd.R (Kd.int .i64) 2 wr w.heap.size (fun k_ => some k_ ≠ (u369002 : Value).ownBlock) u369001 x369001_1) := ⟨by rw [← hq_]; exact (ZR HO_369001)⟩; have n1_ : Aside0 (Kd.R (Kd.int .i64) 2 wr w.heap.size (fun k_ => some k_ ≠ (u369001 : Value).ownBlock) u369002 x369002_1) := ⟨by rw [← hq_]; exact (ZR HO_369002)⟩; have n2_ : Aside0 (wr.heap[gb364]? = some (.cells #[.int .i64 a0_0, .slice (some ad369) l0_1.length c0_1, .slice A0_2 l0_2.length c0_2] 29 (0, 0))) := ⟨by rw [← hq_]; exact (ZK BK364)⟩; have n3_ : Aside0 (wr.heap[gb365]? = some (.cells #[.int .i64 x366000_1, .slice none 0 0, .slice none 0 0] 29 (0, 0))) := ⟨by rw [← hq_]; exact (ZK BK365)⟩; have n4_ : Aside0 (wr.heap[gb368]? = some (.cells #[.int .i64 a0_0, u369001, u369002] 29 (0, 0))) := ⟨by rw [← hq_]; exact (ZK BK368)⟩; have n5_ : Aside0 (Below w.heap.size w wr) := ⟨by rw [← hq_]; exact ZB⟩; clear HO_369001 HO_369002 BK364 BK365 BK368 HB hq_; have HO_369001 := n0_; have HO_369002 := n1_; have BK364 := n2_; have BK365 := n3_; have BK368 := n4_; have HB := n5_; clear n0_ n1_ n2_ n3_ n4_ n5_)); (try (obtain ⟨hcy364_0, hcy364_1, hcy364_2, hfy364_0, hfy364_1, hfy364_2⟩ := ZD3 BK364)); (try (obtain ⟨hcy365_0, hcy365_1, hcy365_2, hfy365_0, hfy365_1, hfy365_2⟩ := ZD3 BK365)); (try (obtain ⟨hcy368_0, hcy368_1, hcy368_2, hfy368_0, hfy368_1, hfy368_2⟩ := ZD3 BK368))) | ((with_reducible refine gate_callee (f := 101) rfl ?_); refine goesL_ (some 45) rfl rfl Try.func101 (by kernel_rfl) rfl #[.int .i64 t366, .int .i64 t370, .int .i64 x9_1] rfl ZA ?_; (with_reducible refine (impl_field_mul.calls t366 t370 x9_1 t371 _ A34.out).mono ?_); rintro e w' ⟨rfl, ⟨nd, rfl⟩⟩; refine ⟨_, rfl, ?_⟩; (try (rw [drewN_self wr]; generalize hq_ : World.drewN wr _ = wr; have n0_ : Aside0 (Kd.R (Kd.int .i64) 2 wr w.heap.size (fun k_ => some k_ ≠ (u369002 : Value).ownBlock) u369001 x369001_1) := ⟨by rw [← hq_]; exact (ZR HO_369001)⟩; have n1_ : Aside0 (Kd.R (Kd.int .i64) 2 wr w.heap.size (fun k_ => some k_ ≠ (u369001 : Value).ownBlock) u369002 x369002_1) := ⟨by rw [← hq_]; exact (ZR HO_369002)⟩; have n2_ : Aside0 (wr.heap[gb364]? = some (.cells #[.int .i64 a0_0, .slice (some ad369) l0_1.length c0_1, .slice A0_2 l0_2.length c0_2] 29 (0, 0))) := ⟨by rw [← hq_]; exact (ZK BK364)⟩; have n3_ : Aside0 (wr.heap[gb365]? = some (.cells #[.int .i64 x366000_1, .slice none 0 0, .slice none 0 0] 29 (0, 0))) := ⟨by rw [← hq_]; exact (ZK BK365)⟩; have n4_ : Aside0 (wr.heap[gb368]? = some (.cells #[.int .i64 a0_0, u369001, u369002] 29 (0, 0))) := ⟨by rw [← hq_]; exact (ZK BK368)⟩; have n5_ : Aside0 (Below w.heap.size w wr) := ⟨by rw [← hq_]; exact ZB⟩; clear HO_369001 HO_369002 BK364 BK365 BK368 HB hq_; have HO_369001 := n0_; have HO_369002 := n1_; have BK364 := n2_; have BK365 := n3_; have BK368 := n4_; have HB := n5_; clear n0_ n1_ n2_ n3_ n4_ n5_)); (try (obtain ⟨hcy364_0, hcy364_1, hcy364_2, hfy364_0, hfy364_1, hfy364_2⟩ := ZD3 BK364)); (try (obtain ⟨hcy365_0, hcy365_1, hcy365_2, hfy365_0, hfy365_1, hfy365_2⟩ := ZD3 BK365)); (try (obtain ⟨hcy368_0, hcy368_1, hcy368_2, hfy368_0, hfy368_1, hfy368_2⟩ := ZD3 BK368)); have p372 : 0 ≤ (0 : Int) := (by omega); have q372 : 0 < (l0_2.length : Int) := of_decide_eq_true (by first | (with_reducible assumption) | assumption); obtain ⟨ad372, e372, hx372_0⟩ := Kd.at_int HR0_2.out 0 p372 q372; cases e372; have qi372 : (0 < l0_2.length) = True := eq_true (by omega); (try rw [show ((0 : Int)).toNat = 0 from rfl] at hx372_0); (try rw [Addr.add_zero'] at hx372_0); replace hx372_0 := (HB.out.cell (World.block_lt_of_cell? w _ hx372_0)).trans hx372_0; replace p372 := eq_true p372; replace q372 := eq_true q372) | ((with_reducible refine gate_callee (f := 101) rfl ?_); refine goesL_ (some 54) rfl rfl Try.func101 (by kernel_rfl) rfl #[.int .i64 t366, .int .i64 (rd l0_2 0), .int .i64 t370] rfl ZA ?_; (with_reducible refine (impl_field_mul.calls t366 (rd l0_2 0) t370 t373 _ A37.out).mono ?_); rintro e w' ⟨rfl, ⟨nd, rfl⟩⟩; refine ⟨_, rfl, ?_⟩; (try (rw [drewN_self wr]; generalize hq_ : World.drewN wr _ = wr; have n0_ : Aside0 (Kd.R (Kd.int .i64) 2 wr w.heap.size (fun k_ => some k_ ≠ (u369002 : Value).ownBlock) u369001 x369001_1) := ⟨by rw [← hq_]; exact (ZR HO_369001)⟩; have n1_ : Aside0 (Kd.R (Kd.int .i64) 2 wr w.heap.size (fun k_ => some k_ ≠ (u369001 : Value).ownBlock) u369002 x369002_1) := ⟨by rw [← hq_]; exact (ZR HO_369002)⟩; have n2_ : Aside0 (wr.heap[gb364]? = some (.cells #[.int .i64 a0_0, .slice (some ad369) l0_1.length c0_1, .slice (some ad372) l0_2.length c0_2] 29 (0, 0))) := ⟨by rw [← hq_]; exact (ZK BK364)⟩; have n3_ : Aside0 (wr.heap[gb365]? = some (.cells #[.int .i64 x366000_1, .slice none 0 0, .slice none 0 0] 29 (0, 0))) := ⟨by rw [← hq_]; exact (ZK BK365)⟩; have n4_ : Aside0 (wr.heap[gb368]? = some (.cells #[.int .i64 a0_0, u369001, u369002] 29 (0, 0))) := ⟨by rw [← hq_]; exact (ZK BK368)⟩; have n5_ : Aside0 (Below w.heap.size w wr) := ⟨by rw [← hq_]; exact ZB⟩; clear HO_369001 HO_369002 BK364 BK365 BK368 HB hq_; have HO_369001 := n0_; have HO_369002 := n1_; have BK364 := n2_; have BK365 := n3_; have BK368 := n4_; have HB := n5_; clear n0_ n1_ n2_ n3_ n4_ n5_)); (try (obtain ⟨hcy364_0, hcy364_1, hcy364_2, hfy364_0, hfy364_1, hfy364_2⟩ := ZD3 BK364)); (try (obtain ⟨hcy365_0, hcy365_1, hcy365_2, hfy365_0, hfy365_1, hfy365_2⟩ := ZD3 BK365)); (try (obtain ⟨hcy368_0, hcy368_1, hcy368_2, hfy368_0, hfy368_1, hfy368_2⟩ := ZD3 BK368)); have p374 : 0 ≤ ((ji38) : Int) := of_decide_eq_true (by first | (with_reducible assumption) | assumption); have q374 : (ji38) < (l0_2.length : Int) := of_decide_eq_true (by first | (with_reducible assumption) | assumption); obtain ⟨ad374, e374, hx374_0⟩ := Kd.at_int HR0_2.out (ji38) p374 q374; obtain rfl : ad372 = ad374 := (by injection e374); replace hx374_0 := (HB.out.cell (World.block_lt_of_cell? w _ hx374_0)).trans hx374_0; replace p374 := eq_true p374; replace q374 := eq_true q374) | ((with_reducible refine gate_callee (f := 102) rfl ?_); refine goesL_ (some 63) rfl rfl Try.func102 (by kernel_rfl) rfl #[.int .i64 t366, .int .i64 (rd l0_2 (ji38)), .int .i64 t370] rfl (by (try simp only [List.map_toArray, List.map_cons, List.map_nil]); first | done | (simp only [hji38]; rfl) | rfl | (simp only [List.length_drop, List.length_take]; rfl)) ?_; (with_reducible refine (impl_field_div.calls k1 t366 (rd l0_2 (ji38)) t370 t375 _ A41.out).mono ?_); rintro e w' ⟨rfl, ⟨nd, rfl⟩⟩; refine ⟨_, rfl, ?_⟩; (try (rw [drewN_self wr]; generalize hq_ : World.drewN wr _ = wr; have n0_ : Aside0 (Kd.R (Kd.int .i64) 2 wr w.heap.size (fun k_ => some k_ ≠ (u369002 : Value).ownBlock) u369001 x369001_1) := ⟨by rw [← hq_]; exact (ZR HO_369001)⟩; have n1_ : Aside0 (Kd.R (Kd.int .i64) 2 wr w.heap.size (fun k_ => some k_ ≠ (u369001 : Value).ownBlock) u369002 x369002_1) := ⟨by rw [← hq_]; exact (ZR HO_369002)⟩; have n2_ : Aside0 (wr.heap[gb364]? = some (.cells #[.int .i64 a0_0, .slice (some ad369) l0_1.length c0_1, .slice (some ad372) l0_2.length c0_2] 29 (0, 0))) := ⟨by rw [← hq_]; exact (ZK BK364)⟩; have n3_ : Aside0 (wr.heap[gb365]? = some (.cells #[.int .i64 x366000_1, .slice none 0 0, .slice none 0 0] 29 (0, 0))) := ⟨by rw [← hq_]; exact (ZK BK365)⟩; have n4_ : Aside0 (wr.heap[gb368]? = some (.cells #[.int .i64 a0_0, u369001, u369002] 29 (0, 0))) := ⟨by rw [← hq_]; exact (ZK BK368)⟩; have n5_ : Aside0 (Below w.heap.size w wr) := ⟨by rw [← hq_]; exact ZB⟩; clear HO_369001 HO_369002 BK364 BK365 BK368 HB hq_; have HO_369001 := n0_; have HO_369002 := n1_; have BK364 := n2_; have BK365 := n3_; have BK368 := n4_; have HB := n5_; clear n0_ n1_ n2_ n3_ n4_ n5_)); (try (obtain ⟨hcy364_0, hcy364_1, hcy364_2, hfy364_0, hfy364_1, hfy364_2⟩ := ZD3 BK364)); (try (obtain ⟨hcy365_0, hcy365_1, hcy365_2, hfy365_0, hfy365_1, hfy365_2⟩ := ZD3 BK365)); (try (obtain ⟨hcy368_0, hcy368_1, hcy368_2, hfy368_0, hfy368_1, hfy368_2⟩ := ZD3 BK368)); obtain ⟨Ao48, co48, eo48⟩ := Kd.R_slice HO_369001.out; subst eo48; obtain ⟨Ao49, co49, eo49⟩ := Kd.R_slice HO_369002.out; subst eo49))
              have n0_ := Aside0.mk (Kd.R_drew HO_369001.out)
              have n1_ := Aside0.mk (Kd.R_drew HO_369002.out)
              have n2_ := Aside0.mk (blk_drew BK364.out)
              have n3_ := Aside0.mk (blk_drew BK365.out)
              have n4_ := Aside0.mk (blk_drew BK368.out)
              have n5_ := Aside0.mk (below_drew1 HB.out)
              clear HO_369001
              clear HO_369002
              clear BK364
              clear BK365
              clear BK368
              clear HB
              have HO_369001 := n0_
              have HO_369002 := n1_
              have BK364 := n2_
              have BK365 := n3_
              have BK368 := n4_
              have HB := n5_
              clear n0_ n1_ n2_ n3_ n4_ n5_
              refine start_ (n := 20) (S := fun w' => w'.cell? ⟨gb368, 0, none⟩ = some (.int .i64 a0_0) ∧ w'.cell? ⟨gb368, 1, none⟩ = some (.slice Ao48 x369001_1.length co48) ∧ w'.cell? ⟨gb368, 2, none⟩ = some (.slice Ao49 x369002_1.length co49)) (ds := [17, 19]) #[false, false, false, false, false, false, false, false, false, false, false, false, false, false, false, false, false, false, false, false] (by kernel_rfl) rfl rfl ⟨(blk_cell BK368.out 0).trans rfl, (blk_cell BK368.out 1).trans rfl, (blk_cell BK368.out 2).trans rfl⟩ (fun hHeld => ?_); refine with_tabW impl_Jacobi_step.tab16 impl_Jacobi_step.bits16 (fun HT_ HW_ => ?_)
              generalize wr.drew = w50 at HO_369001 HO_369002 BK364 BK365 BK368 HB hHeld ⊢
              refine Zpt 0 (some 64) (h := ?_)
              refine Zpt 2 (some 66) (h := ?_)
              refine Zpt 3 (some 67) (h := ?_)
              refine Zpt 4 (some 68) (h := ?_)
              refine Zpt 5 (some 69) (h := ?_)
              refine Zpt 6 (some 70) (h := ?_)
              refine Zpt 7 (some 71) (h := ?_)
              refine Zpt 11 (some 75) (h := ?_)
              refine Zpt 13 (some 77) (h := ?_)
              refine ZtW3 1 (some 65) hHeld (h := ?_)
              refine ZtW3 12 (some 76) hHeld (h := ?_)
              refine join_ (σ := Value × Value × Value) 4 #[true, true, true, true, true, true, true, true, true, true, true, true, true, true, true, false, true, false, false, false] (fun s_ => [(72, .int .i64 t376), (73, s_.1), (74, s_.2.1), (78, s_.2.2), (80, .pointer (some ⟨gb368, 1, none⟩))]) (fun s_ w' => (w'.cell? ⟨gb368, 0, none⟩ = some (.int .i64 a0_0) ∧ w'.cell? ⟨gb368, 1, none⟩ = some (.slice Ao48 x369001_1.length co48) ∧ w'.cell? ⟨gb368, 2, none⟩ = some (.slice Ao49 x369002_1.length co49)) ∧ (Kd.R (Kd.int .i64) 2 w' w.heap.size (fun k_ => some k_ ≠ (s_.2.1 : Value).ownBlock ∧ some k_ ≠ (s_.2.2 : Value).ownBlock ∧ some k_ ≠ (.slice Ao49 x369002_1.length co49 : Value).ownBlock) s_.1 y377) ∧ (Kd.R (Kd.int .i64) 2 w' w.heap.size (fun k_ => some k_ ≠ (s_.1 : Value).ownBlock ∧ some k_ ≠ (s_.2.2 : Value).ownBlock ∧ some k_ ≠ (.slice Ao49 x369002_1.length co49 : Value).ownBlock) s_.2.1 y380) ∧ (Kd.R (Kd.int .i64) 2 w' w.heap.size (fun k_ => some k_ ≠ (s_.1 : Value).ownBlock ∧ some k_ ≠ (s_.2.1 : Value).ownBlock ∧ some k_ ≠ (.slice Ao49 x369002_1.length co49 : Value).ownBlock) s_.2.2 y383) ∧ (Kd.R (Kd.int .i64) 2 w' w.heap.size (fun k_ => some k_ ≠ (s_.1 : Value).ownBlock ∧ some k_ ≠ (s_.2.1 : Value).ownBlock ∧ some k_ ≠ (s_.2.2 : Value).ownBlock) (.slice Ao49 x369002_1.length co49) x369002_1) ∧ (w'.heap[gb364]? = some (.cells #[.int .i64 a0_0, .slice (some ad369) l0_1.length c0_1, .slice (some ad372) l0_2.length c0_2] 29 (0, 0))) ∧ (w'.heap[gb365]? = some (.cells #[.int .i64 x366000_1, .slice none 0 0, .slice none 0 0] 29 (0, 0))) ∧ (w'.heap[gb368]? = some (.cells #[.int .i64 a0_0, .slice Ao48 x369001_1.length co48, .slice Ao49 x369002_1.length co49] 29 (0, 0))) ∧ (Below w.heap.size w w')) ?_ ?_
              rotate_left
              ·intro hCont
               refine two_ (i := 8) (j := 14) (Ni := some 72) (Nj := some 78) #[true, true, true, true, true, true, true, true, true, false, false, true, true, true, false, false, false, false, false, false] #[true, true, true, true, true, true, true, true, false, false, false, true, true, true, true, false, false, false, false, false] rfl rfl rfl rfl (two_of HT_.out (by kernel_rfl)) (by decide) (by decide) (fun K hK => ?_) (fun K hK => ?_)
               ·skip
                refine goes_ Try.func97 (by kernel_rfl) rfl #[.int .i64 t366, .int .i64 (wrap64 ((wrap64 (t370 + t375)) + a1))] (by rfl) rfl rfl ZA ?_
                with_reducible refine (impl_field_mod.calls t366 (wrap64 ((wrap64 (t370 + t375)) + a1)) t376 _ A42.out).mono ?_
                rintro e w' ⟨rfl, ⟨nd, rfl⟩⟩
                refine ⟨_, rfl, ?_⟩
                refine hK.out _ _ ⟨(blk_cell BK368.out 0).trans rfl, (blk_cell BK368.out 1).trans rfl, (blk_cell BK368.out 2).trans rfl⟩ (fun hHeld => ?_)
                clear hK K
                refine norm_ (a' := ?_) ?_ ?_
                rotate_left
                ·show Act.put _ (some 72) _ = _
                 simp only [Act.put, List.setIfInBounds_toArray, List.set_cons_zero, List.set_cons_succ, i64_w, i32_w]
                 rfl
                refine two_ (i := 9) (j := 14) (Ni := some 73) (Nj := some 78) #[true, true, true, true, true, true, true, true, true, true, false, true, true, true, false, false, false, false, false, false] #[true, true, true, true, true, true, true, true, true, false, false, true, true, true, true, false, false, false, false, false] rfl rfl rfl rfl (two_of HT_.out (by kernel_rfl)) (by decide) (by decide) (fun K hK => ?_) (fun K hK => ?_)
                ·skip
                 refine Kd.R_lit_step (Kd.int .i64) _ 2 ?hg (N := 73) ?hd (xs := ([t376] : List Int)) (inner := [.int .i64 t376]) (ok := fun _ => True) (okp := fun _ => True) ?hr ?hp (fun _ hk => hk) trivial (Below.refl _ _) (Nat.le_refl _) (by simp) ?_; (case hd => rfl); (case hg => rfl); (case hr => first | (go_simp; done) | (go_simp; rfl)); (case hp => exact (Reps.one (show Kd.M (Kd.int .i64) _ _ _ t376 [.int .i64 t376] from rfl) (Reps.none _ _)))
                 intro v378 w51 ho52 hb hg_ hnew_
                 clear hg_ hnew_
                 (first | rw [← Ny377.out] at ho52 | (simp only [Int.reduceToNat] at ho52; rw [← Ny377.out] at ho52))
                 have n0_ := Aside0.mk (Kd.R_elder' (ZR HO_369001) (Kd.R_base ho52) hb)
                 have n1_ := Aside0.mk (Kd.R_elder' (ZR HO_369002) (Kd.R_base ho52) hb)
                 have n2_ := Aside0.mk (Kd.R_lower (Kd.R_new' (Kd.R_new' ho52 (Kd.R_lt (ZR HO_369001))) (Kd.R_lt (ZR HO_369002))) (below_size ZB))
                 have n3_ := ZL BK364 hb
                 have n4_ := ZL BK365 hb
                 have n5_ := ZL BK368 hb
                 have n6_ := Aside0.mk (below_step ZB hb)
                 clear HO_369001
                 clear HO_369002
                 clear BK364
                 clear BK365
                 clear BK368
                 clear HB
                 have HO_369001 := n0_
                 have HO_369002 := n1_
                 have HO379 := n2_
                 have BK364 := n3_
                 have BK365 := n4_
                 have BK368 := n5_
                 have HB := n6_
                 clear n0_ n1_ n2_ n3_ n4_ n5_ n6_
                 clear hb ho52
                 obtain ⟨Ao54, co54, eo54⟩ := Kd.R_slice HO379.out
                 (first | subst eo54 | (injection eo54 with f1_ f2_ f3_; have f4_ := f1_.symm; have f5_ := f3_.symm; clear f1_ f2_ f3_; subst f4_; subst f5_))
                 refine hK.out _ _ ⟨(blk_cell BK368.out 0).trans rfl, (blk_cell BK368.out 1).trans rfl, (blk_cell BK368.out 2).trans rfl⟩ (fun hHeld => ?_)
                 clear hK K
                 refine norm_ (a' := ?_) ?_ ?_
                 rotate_left
                 ·show Act.put _ (some 73) _ = _
                  simp only [Act.put, List.setIfInBounds_toArray, List.set_cons_zero, List.set_cons_succ, i64_w, i32_w]
                  rfl
                 refine two_ (i := 10) (j := 14) (Ni := some 74) (Nj := some 78) #[true, true, true, true, true, true, true, true, true, true, true, true, true, true, false, false, false, false, false, false] #[true, true, true, true, true, true, true, true, true, true, false, true, true, true, true, false, false, false, false, false] rfl rfl rfl rfl (two_of HT_.out (by kernel_rfl)) (by decide) (by decide) (fun K hK => ?_) (fun K hK => ?_)
                 ·skip
                  refine Kd.R_append_rows_step (Kd.int .i64) (w0 := w) w.heap.size (by rfl) (.tmp 65) (.tmp 73) 22 2 (.int .i64 0) 8 rfl Try.underlying22 info2 rfl (by decide) (by omega) (.slice Ao48 x369001_1.length co48) x369001_1 y377 _ _ _ (fun k_ => some k_ ≠ (.slice Ao49 x369002_1.length co49 : Value).ownBlock ∧ some k_ ≠ (.slice Ao54 y377.length co54 : Value).ownBlock) (fun _ => False) rfl rfl ?aO ?aR (fun _ _ h => h) (fun _ h => h.elim) ?aF ?aB ?aS ?aL ?_
                  (case aR => repeat (first | exact (Kd.R_reads' HO379.out).2.2 | (with_reducible refine Kd.C_alloc ?_ _) | (with_reducible refine Kd.C_drewN ?_ _) | (with_reducible refine Kd.C_drew ?_)))
                  (case aB => exact ZB)
                  (case aF => exact (fun k_ hk => ⟨Kd.fresh' (Kd.R_lt (ZR HO_369002)) k_ hk, Kd.fresh' (Kd.R_lt (ZR HO379)) k_ hk⟩))
                  (case aO => exact (ZR HO_369001))
                  (case aS => exact (below_size ZB))
                  (case aL => have := LMc43.out; omega)
                  intro v381 w53 ho hb hg hat
                  rw [← Ny380.out] at ho
                  have n0_ := Aside0.mk (Kd.R_after (ok := (fun k_ => some k_ ≠ (.slice Ao54 y377.length co54 : Value).ownBlock)) (by refine ZQ ?_; exact Kd.R_mono HO_369002.out (fun _ hk => (And.intro (hk.2) (hk.1)))) hg hat)
                  have n1_ := Aside0.mk (blk_grown (ZK BK364) hg (Kd.R_ne HO_369001.out BK364.out (by decide)))
                  have n2_ := Aside0.mk (blk_grown (ZK BK365) hg (Kd.R_ne HO_369001.out BK365.out (by decide)))
                  have n3_ := Aside0.mk (blk_grown (ZK BK368) hg (Kd.R_ne HO_369001.out BK368.out (by decide)))
                  have n4_ := Aside0.mk (Kd.R_after (ok := (fun k_ => some k_ ≠ (.slice Ao49 x369002_1.length co49 : Value).ownBlock)) (by refine ZQ ?_; exact Kd.R_mono HO379.out (fun _ hk => (And.intro (hk.2) (hk.1.2)))) hg hat)
                  have n5_ := Aside0.mk (hb)
                  have n6_ := Aside0.mk (ho)
                  clear HO_369002
                  clear BK364
                  clear BK365
                  clear BK368
                  clear HO379
                  clear HB
                  clear HO_369001
                  have HO_369002 := n0_
                  have BK364 := n1_
                  have BK365 := n2_
                  have BK368 := n3_
                  have HO379 := n4_
                  have HB := n5_
                  have HO382 := n6_
                  clear n0_ n1_ n2_ n3_ n4_ n5_ n6_
                  clear ho hb hg hat
                  refine hK.out _ _ ⟨(blk_cell BK368.out 0).trans rfl, (blk_cell BK368.out 1).trans rfl, (blk_cell BK368.out 2).trans rfl⟩ (fun hHeld => ?_)
                  clear hK K
                  refine norm_ (a' := ?_) ?_ ?_
                  rotate_left
                  ·show Act.put _ (some 74) _ = _
                   simp only [Act.put, List.setIfInBounds_toArray, List.set_cons_zero, List.set_cons_succ, i64_w, i32_w]
                   rfl
                  refine Zpt 16 (some 80) (h := ?_)
                  refine one_ (i := 14) (N := some 78) #[true, true, true, true, true, true, true, true, true, true, true, true, true, true, true, false, true, false, false, false] rfl rfl (one_of HT_.out (by kernel_rfl)) (by decide) (fun K hK => ?_)
                  refine Kd.R_lit_step (Kd.int .i64) _ 2 ?hg (N := 78) ?hd (xs := ([t373] : List Int)) (inner := [.int .i64 t373]) (ok := fun _ => True) (okp := fun _ => True) ?hr ?hp (fun _ hk => hk) trivial (Below.refl _ _) (Nat.le_refl _) (by simp) ?_; (case hd => rfl); (case hg => rfl); (case hr => first | (go_simp; done) | (go_simp; rfl)); (case hp => exact (Reps.one (show Kd.M (Kd.int .i64) _ _ _ t373 [.int .i64 t373] from rfl) (Reps.none _ _)))
                  intro v384 w55 ho56 hb hg_ hnew_
                  clear hg_ hnew_
                  (first | rw [← Ny383.out] at ho56 | (simp only [Int.reduceToNat] at ho56; rw [← Ny383.out] at ho56))
                  have n0_ := Aside0.mk (Kd.R_elder' (ZR HO_369002) (Kd.R_base ho56) hb)
                  have n1_ := Aside0.mk (Kd.R_elder' (ZR HO379) (Kd.R_base ho56) hb)
                  have n2_ := Aside0.mk (Kd.R_elder' (ZR HO382) (Kd.R_base ho56) hb)
                  have n3_ := Aside0.mk (Kd.R_lower (Kd.R_new' (Kd.R_new' (Kd.R_new' ho56 (Kd.R_lt (ZR HO_369002))) (Kd.R_lt (ZR HO379))) (Kd.R_lt (ZR HO382))) (below_size ZB))
                  have n4_ := ZL BK364 hb
                  have n5_ := ZL BK365 hb
                  have n6_ := ZL BK368 hb
                  have n7_ := Aside0.mk (below_step ZB hb)
                  clear HO_369002
                  clear HO379
                  clear HO382
                  clear BK364
                  clear BK365
                  clear BK368
                  clear HB
                  have HO_369002 := n0_
                  have HO379 := n1_
                  have HO382 := n2_
                  have HO385 := n3_
                  have BK364 := n4_
                  have BK365 := n5_
                  have BK368 := n6_
                  have HB := n7_
                  clear n0_ n1_ n2_ n3_ n4_ n5_ n6_ n7_
                  clear hb ho56
                  refine hK.out _ _ ⟨(blk_cell BK368.out 0).trans rfl, (blk_cell BK368.out 1).trans rfl, (blk_cell BK368.out 2).trans rfl⟩ (fun hHeld => ?_)
                  clear hK K
                  refine norm_ (a' := ?_) ?_ ?_
                  rotate_left
                  ·show Act.put _ (some 78) _ = _
                   simp only [Act.put, List.setIfInBounds_toArray, List.set_cons_zero, List.set_cons_succ, i64_w, i32_w]
                   rfl
                  exact norm_ (by simp only [putAll, Act.put, List.setIfInBounds_toArray, List.set_cons_zero, List.set_cons_succ]) (hCont (.slice Ao54 y377.length co54, v381, v384) _ ⟨hHeld, (by refine ZQ ?_; exact Kd.R_mono HO379.out (fun _ hk => (And.intro (hk.1.2) ((And.intro (hk.2) (hk.1.1)))))), (by refine ZQ ?_; exact Kd.R_mono HO382.out (fun _ hk => (And.intro (hk.1.2) ((And.intro (hk.2) (hk.1.1)))))), (by refine ZQ ?_; exact Kd.R_mono HO385.out (fun _ hk => (And.intro (hk.1.2) ((And.intro (hk.2) (hk.1.1.2)))))), (by refine ZQ ?_; exact Kd.R_mono HO_369002.out (fun _ hk => (And.intro (hk.1.1) ((And.intro (hk.1.2) (hk.2)))))), (ZK BK364), (ZK BK365), (ZK BK368), ZB⟩)
                 ·skip
                  refine Kd.R_lit_step (Kd.int .i64) _ 2 ?hg (N := 78) ?hd (xs := ([t373] : List Int)) (inner := [.int .i64 t373]) (ok := fun _ => True) (okp := fun _ => True) ?hr ?hp (fun _ hk => hk) trivial (Below.refl _ _) (Nat.le_refl _) (by simp) ?_; (case hd => rfl); (case hg => rfl); (case hr => first | (go_simp; done) | (go_simp; rfl)); (case hp => exact (Reps.one (show Kd.M (Kd.int .i64) _ _ _ t373 [.int .i64 t373] from rfl) (Reps.none _ _)))
                  intro v384 w53 ho54 hb hg_ hnew_
                  clear hg_ hnew_
                  (first | rw [← Ny383.out] at ho54 | (simp only [Int.reduceToNat] at ho54; rw [← Ny383.out] at ho54))
                  have n0_ := Aside0.mk (Kd.R_elder' (ZR HO_369001) (Kd.R_base ho54) hb)
                  have n1_ := Aside0.mk (Kd.R_elder' (ZR HO_369002) (Kd.R_base ho54) hb)
                  have n2_ := Aside0.mk (Kd.R_elder' (ZR HO379) (Kd.R_base ho54) hb)
                  have n3_ := Aside0.mk (Kd.R_lower (Kd.R_new' (Kd.R_new' (Kd.R_new' ho54 (Kd.R_lt (ZR HO_369001))) (Kd.R_lt (ZR HO_369002))) (Kd.R_lt (ZR HO379))) (below_size ZB))
                  have n4_ := ZL BK364 hb
                  have n5_ := ZL BK365 hb
                  have n6_ := ZL BK368 hb
                  have n7_ := Aside0.mk (below_step ZB hb)
                  clear HO_369001
                  clear HO_369002
                  clear HO379
                  clear BK364
                  clear BK365
                  clear BK368
                  clear HB
                  have HO_369001 := n0_
                  have HO_369002 := n1_
                  have HO379 := n2_
                  have HO385 := n3_
                  have BK364 := n4_
                  have BK365 := n5_
                  have BK368 := n6_
                  have HB := n7_
                  clear n0_ n1_ n2_ n3_ n4_ n5_ n6_ n7_
                  clear hb ho54
                  obtain ⟨Ao56, co56, eo56⟩ := Kd.R_slice HO379.out
                  (first | subst eo56 | (injection eo56 with f1_ f2_ f3_; have f4_ := f1_.symm; have f5_ := f3_.symm; clear f1_ f2_ f3_; subst f4_; subst f5_))
                  refine hK.out _ _ ⟨(blk_cell BK368.out 0).trans rfl, (blk_cell BK368.out 1).trans rfl, (blk_cell BK368.out 2).trans rfl⟩ (fun hHeld => ?_)
                  clear hK K
                  refine norm_ (a' := ?_) ?_ ?_
                  rotate_left
                  ·show Act.put _ (some 78) _ = _
                   simp only [Act.put, List.setIfInBounds_toArray, List.set_cons_zero, List.set_cons_succ, i64_w, i32_w]
                   rfl
                  refine one_ (i := 10) (N := some 74) #[true, true, true, true, true, true, true, true, true, true, true, true, true, true, true, false, false, false, false, false] rfl rfl (one_of HT_.out (by kernel_rfl)) (by decide) (fun K hK => ?_)
                  refine Kd.R_append_rows_step (Kd.int .i64) (w0 := w) w.heap.size (by rfl) (.tmp 65) (.tmp 73) 22 2 (.int .i64 0) 8 rfl Try.underlying22 info2 rfl (by decide) (by omega) (.slice Ao48 x369001_1.length co48) x369001_1 y377 _ _ _ (fun k_ => some k_ ≠ (.slice Ao49 x369002_1.length co49 : Value).ownBlock ∧ some k_ ≠ (.slice Ao56 y377.length co56 : Value).ownBlock ∧ some k_ ≠ (v384 : Value).ownBlock) (fun _ => False) rfl rfl ?aO ?aR (fun _ _ h => h) (fun _ h => h.elim) ?aF ?aB ?aS ?aL ?_
                  (case aR => repeat (first | exact (Kd.R_reads' HO379.out).2.2 | (with_reducible refine Kd.C_alloc ?_ _) | (with_reducible refine Kd.C_drewN ?_ _) | (with_reducible refine Kd.C_drew ?_)))
                  (case aB => exact ZB)
                  (case aF => exact (fun k_ hk => ⟨Kd.fresh' (Kd.R_lt (ZR HO_369002)) k_ hk, Kd.fresh' (Kd.R_lt (ZR HO379)) k_ hk, Kd.fresh' (Kd.R_lt (ZR HO385)) k_ hk⟩))
                  (case aO => exact (by refine ZQ ?_; exact Kd.R_mono HO_369001.out (fun _ hk => (And.intro (hk.1.1) ((And.intro (hk.1.2) (hk.2)))))))
                  (case aS => exact (below_size ZB))
                  (case aL => have := LMc43.out; omega)
                  intro v381 w55 ho hb hg hat
                  rw [← Ny380.out] at ho
                  have n0_ := Aside0.mk (Kd.R_after (ok := (fun k_ => some k_ ≠ (.slice Ao56 y377.length co56 : Value).ownBlock ∧ some k_ ≠ (v384 : Value).ownBlock)) (by refine ZQ ?_; exact Kd.R_mono HO_369002.out (fun _ hk => (And.intro ((And.intro (hk.1.2) (hk.2))) (hk.1.1)))) hg hat)
                  have n1_ := Aside0.mk (blk_grown (ZK BK364) hg (Kd.R_ne HO_369001.out BK364.out (by decide)))
                  have n2_ := Aside0.mk (blk_grown (ZK BK365) hg (Kd.R_ne HO_369001.out BK365.out (by decide)))
                  have n3_ := Aside0.mk (blk_grown (ZK BK368) hg (Kd.R_ne HO_369001.out BK368.out (by decide)))
                  have n4_ := Aside0.mk (Kd.R_after (ok := (fun k_ => some k_ ≠ (.slice Ao49 x369002_1.length co49 : Value).ownBlock ∧ some k_ ≠ (v384 : Value).ownBlock)) (by refine ZQ ?_; exact Kd.R_mono HO379.out (fun _ hk => (And.intro ((And.intro (hk.1.2) (hk.2))) (hk.1.1.2)))) hg hat)
                  have n5_ := Aside0.mk (Kd.R_after (ok := (fun k_ => some k_ ≠ (.slice Ao49 x369002_1.length co49 : Value).ownBlock ∧ some k_ ≠ (.slice Ao56 y377.length co56 : Value).ownBlock)) (by refine ZQ ?_; exact Kd.R_mono HO385.out (fun _ hk => (And.intro ((And.intro (hk.1.2) (hk.2))) (hk.1.1.2)))) hg hat)
                  have n6_ := Aside0.mk (hb)
                  have n7_ := Aside0.mk (ho)
                  clear HO_369002
                  clear BK364
                  clear BK365
                  clear BK368
                  clear HO379
                  clear HO385
                  clear HB
                  clear HO_369001
                  have HO_369002 := n0_
                  have BK364 := n1_
                  have BK365 := n2_
                  have BK368 := n3_
                  have HO379 := n4_
                  have HO385 := n5_
                  have HB := n6_
                  have HO382 := n7_
                  clear n0_ n1_ n2_ n3_ n4_ n5_ n6_ n7_
                  clear ho hb hg hat
                  refine hK.out _ _ ⟨(blk_cell BK368.out 0).trans rfl, (blk_cell BK368.out 1).trans rfl, (blk_cell BK368.out 2).trans rfl⟩ (fun hHeld => ?_)
                  clear hK K
                  refine norm_ (a' := ?_) ?_ ?_
                  rotate_left
                  ·show Act.put _ (some 74) _ = _
                   simp only [Act.put, List.setIfInBounds_toArray, List.set_cons_zero, List.set_cons_succ, i64_w, i32_w]
                   rfl
                  refine Zpt 16 (some 80) (h := ?_)
                  exact norm_ (by simp only [putAll, Act.put, List.setIfInBounds_toArray, List.set_cons_zero, List.set_cons_succ]) (hCont (.slice Ao56 y377.length co56, v381, v384) _ ⟨hHeld, (by refine ZQ ?_; exact Kd.R_mono HO379.out (fun _ hk => (And.intro (hk.2) ((And.intro (hk.1.2) (hk.1.1)))))), (by refine ZQ ?_; exact Kd.R_mono HO382.out (fun _ hk => (And.intro (hk.2.1) ((And.intro (hk.2.2) (hk.1)))))), (by refine ZQ ?_; exact Kd.R_mono HO385.out (fun _ hk => (And.intro (hk.1.2) ((And.intro (hk.2) (hk.1.1)))))), (by refine ZQ ?_; exact Kd.R_mono HO_369002.out (fun _ hk => (And.intro (hk.1.1) ((And.intro (hk.2) (hk.1.2)))))), (ZK BK364), (ZK BK365), (ZK BK368), ZB⟩)
                ·skip
                 refine Kd.R_lit_step (Kd.int .i64) _ 2 ?hg (N := 78) ?hd (xs := ([t373] : List Int)) (inner := [.int .i64 t373]) (ok := fun _ => True) (okp := fun _ => True) ?hr ?hp (fun _ hk => hk) trivial (Below.refl _ _) (Nat.le_refl _) (by simp) ?_; (case hd => rfl); (case hg => rfl); (case hr => first | (go_simp; done) | (go_simp; rfl)); (case hp => exact (Reps.one (show Kd.M (Kd.int .i64) _ _ _ t373 [.int .i64 t373] from rfl) (Reps.none _ _)))
                 intro v384 w51 ho52 hb hg_ hnew_
                 clear hg_ hnew_
                 (first | rw [← Ny383.out] at ho52 | (simp only [Int.reduceToNat] at ho52; rw [← Ny383.out] at ho52))
                 have n0_ := Aside0.mk (Kd.R_elder' (ZR HO_369001) (Kd.R_base ho52) hb)
                 have n1_ := Aside0.mk (Kd.R_elder' (ZR HO_369002) (Kd.R_base ho52) hb)
                 have n2_ := Aside0.mk (Kd.R_lower (Kd.R_new' (Kd.R_new' ho52 (Kd.R_lt (ZR HO_369001))) (Kd.R_lt (ZR HO_369002))) (below_size ZB))
                 have n3_ := ZL BK364 hb
                 have n4_ := ZL BK365 hb
                 have n5_ := ZL BK368 hb
                 have n6_ := Aside0.mk (below_step ZB hb)
                 clear HO_369001
                 clear HO_369002
                 clear BK364
                 clear BK365
                 clear BK368
                 clear HB
                 have HO_369001 := n0_
                 have HO_369002 := n1_
                 have HO385 := n2_
                 have BK364 := n3_
                 have BK365 := n4_
                 have BK368 := n5_
                 have HB := n6_
                 clear n0_ n1_ n2_ n3_ n4_ n5_ n6_
                 clear hb ho52
                 refine hK.out _ _ ⟨(blk_cell BK368.out 0).trans rfl, (blk_cell BK368.out 1).trans rfl, (blk_cell BK368.out 2).trans rfl⟩ (fun hHeld => ?_)
                 clear hK K
                 refine norm_ (a' := ?_) ?_ ?_
                 rotate_left
                 ·show Act.put _ (some 78) _ = _
                  simp only [Act.put, List.setIfInBounds_toArray, List.set_cons_zero, List.set_cons_succ, i64_w, i32_w]
                  rfl
                 refine one_ (i := 9) (N := some 73) #[true, true, true, true, true, true, true, true, true, true, false, true, true, true, true, false, false, false, false, false] rfl rfl (one_of HT_.out (by kernel_rfl)) (by decide) (fun K hK => ?_)
                 refine Kd.R_lit_step (Kd.int .i64) _ 2 ?hg (N := 73) ?hd (xs := ([t376] : List Int)) (inner := [.int .i64 t376]) (ok := fun _ => True) (okp := fun _ => True) ?hr ?hp (fun _ hk => hk) trivial (Below.refl _ _) (Nat.le_refl _) (by simp) ?_; (case hd => rfl); (case hg => rfl); (case hr => first | (go_simp; done) | (go_simp; rfl)); (case hp => exact (Reps.one (show Kd.M (Kd.int .i64) _ _ _ t376 [.int .i64 t376] from rfl) (Reps.none _ _)))
                 intro v378 w53 ho54 hb hg_ hnew_
                 clear hg_ hnew_
                 (first | rw [← Ny377.out] at ho54 | (simp only [Int.reduceToNat] at ho54; rw [← Ny377.out] at ho54))
                 have n0_ := Aside0.mk (Kd.R_elder' (ZR HO_369001) (Kd.R_base ho54) hb)
                 have n1_ := Aside0.mk (Kd.R_elder' (ZR HO_369002) (Kd.R_base ho54) hb)
                 have n2_ := Aside0.mk (Kd.R_elder' (ZR HO385) (Kd.R_base ho54) hb)
                 have n3_ := Aside0.mk (Kd.R_lower (Kd.R_new' (Kd.R_new' (Kd.R_new' ho54 (Kd.R_lt (ZR HO_369001))) (Kd.R_lt (ZR HO_369002))) (Kd.R_lt (ZR HO385))) (below_size ZB))
                 have n4_ := ZL BK364 hb
                 have n5_ := ZL BK365 hb
                 have n6_ := ZL BK368 hb
                 have n7_ := Aside0.mk (below_step ZB hb)
                 clear HO_369001
                 clear HO_369002
                 clear HO385
                 clear BK364
                 clear BK365
                 clear BK368
                 clear HB
                 have HO_369001 := n0_
                 have HO_369002 := n1_
                 have HO385 := n2_
                 have HO379 := n3_
                 have BK364 := n4_
                 have BK365 := n5_
                 have BK368 := n6_
                 have HB := n7_
                 clear n0_ n1_ n2_ n3_ n4_ n5_ n6_ n7_
                 clear hb ho54
                 obtain ⟨Ao56, co56, eo56⟩ := Kd.R_slice HO379.out
                 (first | subst eo56 | (injection eo56 with f1_ f2_ f3_; have f4_ := f1_.symm; have f5_ := f3_.symm; clear f1_ f2_ f3_; subst f4_; subst f5_))
                 refine hK.out _ _ ⟨(blk_cell BK368.out 0).trans rfl, (blk_cell BK368.out 1).trans rfl, (blk_cell BK368.out 2).trans rfl⟩ (fun hHeld => ?_)
                 clear hK K
                 refine norm_ (a' := ?_) ?_ ?_
                 rotate_left
                 ·show Act.put _ (some 73) _ = _
                  simp only [Act.put, List.setIfInBounds_toArray, List.set_cons_zero, List.set_cons_succ, i64_w, i32_w]
                  rfl
                 refine one_ (i := 10) (N := some 74) #[true, true, true, true, true, true, true, true, true, true, true, true, true, true, true, false, false, false, false, false] rfl rfl (one_of HT_.out (by kernel_rfl)) (by decide) (fun K hK => ?_)
                 refine Kd.R_append_rows_step (Kd.int .i64) (w0 := w) w.heap.size (by rfl) (.tmp 65) (.tmp 73) 22 2 (.int .i64 0) 8 rfl Try.underlying22 info2 rfl (by decide) (by omega) (.slice Ao48 x369001_1.length co48) x369001_1 y377 _ _ _ (fun k_ => some k_ ≠ (.slice Ao49 x369002_1.length co49 : Value).ownBlock ∧ some k_ ≠ (v384 : Value).ownBlock ∧ some k_ ≠ (.slice Ao56 y377.length co56 : Value).ownBlock) (fun _ => False) rfl rfl ?aO ?aR (fun _ _ h => h) (fun _ h => h.elim) ?aF ?aB ?aS ?aL ?_
                 (case aR => repeat (first | exact (Kd.R_reads' HO379.out).2.2 | (with_reducible refine Kd.C_alloc ?_ _) | (with_reducible refine Kd.C_drewN ?_ _) | (with_reducible refine Kd.C_drew ?_)))
                 (case aB => exact ZB)
                 (case aF => exact (fun k_ hk => ⟨Kd.fresh' (Kd.R_lt (ZR HO_369002)) k_ hk, Kd.fresh' (Kd.R_lt (ZR HO385)) k_ hk, Kd.fresh' (Kd.R_lt (ZR HO379)) k_ hk⟩))
                 (case aO => exact (by refine ZQ ?_; exact Kd.R_mono HO_369001.out (fun _ hk => (And.intro (hk.1.1) ((And.intro (hk.1.2) (hk.2)))))))
                 (case aS => exact (below_size ZB))
                 (case aL => have := LMc43.out; omega)
                 intro v381 w55 ho hb hg hat
                 rw [← Ny380.out] at ho
                 have n0_ := Aside0.mk (Kd.R_after (ok := (fun k_ => some k_ ≠ (v384 : Value).ownBlock ∧ some k_ ≠ (.slice Ao56 y377.length co56 : Value).ownBlock)) (by refine ZQ ?_; exact Kd.R_mono HO_369002.out (fun _ hk => (And.intro ((And.intro (hk.1.2) (hk.2))) (hk.1.1)))) hg hat)
                 have n1_ := Aside0.mk (blk_grown (ZK BK364) hg (Kd.R_ne HO_369001.out BK364.out (by decide)))
                 have n2_ := Aside0.mk (blk_grown (ZK BK365) hg (Kd.R_ne HO_369001.out BK365.out (by decide)))
                 have n3_ := Aside0.mk (blk_grown (ZK BK368) hg (Kd.R_ne HO_369001.out BK368.out (by decide)))
                 have n4_ := Aside0.mk (Kd.R_after (ok := (fun k_ => some k_ ≠ (.slice Ao49 x369002_1.length co49 : Value).ownBlock ∧ some k_ ≠ (.slice Ao56 y377.length co56 : Value).ownBlock)) (by refine ZQ ?_; exact Kd.R_mono HO385.out (fun _ hk => (And.intro ((And.intro (hk.1.2) (hk.2))) (hk.1.1.2)))) hg hat)
                 have n5_ := Aside0.mk (Kd.R_after (ok := (fun k_ => some k_ ≠ (.slice Ao49 x369002_1.length co49 : Value).ownBlock ∧ some k_ ≠ (v384 : Value).ownBlock)) (by refine ZQ ?_; exact Kd.R_mono HO379.out (fun _ hk => (And.intro ((And.intro (hk.1.2) (hk.2))) (hk.1.1.2)))) hg hat)
                 have n6_ := Aside0.mk (hb)
                 have n7_ := Aside0.mk (ho)
                 clear HO_369002
                 clear BK364
                 clear BK365
                 clear BK368
                 clear HO385
                 clear HO379
                 clear HB
                 clear HO_369001
                 have HO_369002 := n0_
                 have BK364 := n1_
                 have BK365 := n2_
                 have BK368 := n3_
                 have HO385 := n4_
                 have HO379 := n5_
                 have HB := n6_
                 have HO382 := n7_
                 clear n0_ n1_ n2_ n3_ n4_ n5_ n6_ n7_
                 clear ho hb hg hat
                 refine hK.out _ _ ⟨(blk_cell BK368.out 0).trans rfl, (blk_cell BK368.out 1).trans rfl, (blk_cell BK368.out 2).trans rfl⟩ (fun hHeld => ?_)
                 clear hK K
                 refine norm_ (a' := ?_) ?_ ?_
                 rotate_left
                 ·show Act.put _ (some 74) _ = _
                  simp only [Act.put, List.setIfInBounds_toArray, List.set_cons_zero, List.set_cons_succ, i64_w, i32_w]
                  rfl
                 refine Zpt 16 (some 80) (h := ?_)
                 exact norm_ (by simp only [putAll, Act.put, List.setIfInBounds_toArray, List.set_cons_zero, List.set_cons_succ]) (hCont (.slice Ao56 y377.length co56, v381, v384) _ ⟨hHeld, (by refine ZQ ?_; exact Kd.R_mono HO379.out (fun _ hk => (And.intro (hk.2) ((And.intro (hk.1.2) (hk.1.1)))))), (by refine ZQ ?_; exact Kd.R_mono HO382.out (fun _ hk => (And.intro (hk.2.2) ((And.intro (hk.2.1) (hk.1)))))), (by refine ZQ ?_; exact Kd.R_mono HO385.out (fun _ hk => (And.intro (hk.1.2) ((And.intro (hk.2) (hk.1.1)))))), (by refine ZQ ?_; exact Kd.R_mono HO_369002.out (fun _ hk => (And.intro (hk.1.2) ((And.intro (hk.2) (hk.1.1)))))), (ZK BK364), (ZK BK365), (ZK BK368), ZB⟩)
               ·skip
                refine Kd.R_lit_step (Kd.int .i64) _ 2 ?hg (N := 78) ?hd (xs := ([t373] : List Int)) (inner := [.int .i64 t373]) (ok := fun _ => True) (okp := fun _ => True) ?hr ?hp (fun _ hk => hk) trivial (Below.refl _ _) (Nat.le_refl _) (by simp) ?_; (case hd => rfl); (case hg => rfl); (case hr => first | (go_simp; done) | (go_simp; rfl)); (case hp => exact (Reps.one (show Kd.M (Kd.int .i64) _ _ _ t373 [.int .i64 t373] from rfl) (Reps.none _ _)))
                intro v384 w51 ho52 hb hg_ hnew_
                clear hg_ hnew_
                (first | rw [← Ny383.out] at ho52 | (simp only [Int.reduceToNat] at ho52; rw [← Ny383.out] at ho52))
                have n0_ := Aside0.mk (Kd.R_elder' (ZR HO_369001) (Kd.R_base ho52) hb)
                have n1_ := Aside0.mk (Kd.R_elder' (ZR HO_369002) (Kd.R_base ho52) hb)
                have n2_ := Aside0.mk (Kd.R_lower (Kd.R_new' (Kd.R_new' ho52 (Kd.R_lt (ZR HO_369001))) (Kd.R_lt (ZR HO_369002))) (below_size ZB))
                have n3_ := ZL BK364 hb
                have n4_ := ZL BK365 hb
                have n5_ := ZL BK368 hb
                have n6_ := Aside0.mk (below_step ZB hb)
                clear HO_369001
                clear HO_369002
                clear BK364
                clear BK365
                clear BK368
                clear HB
                have HO_369001 := n0_
                have HO_369002 := n1_
                have HO385 := n2_
                have BK364 := n3_
                have BK365 := n4_
                have BK368 := n5_
                have HB := n6_
                clear n0_ n1_ n2_ n3_ n4_ n5_ n6_
                clear hb ho52
                refine hK.out _ _ ⟨(blk_cell BK368.out 0).trans rfl, (blk_cell BK368.out 1).trans rfl, (blk_cell BK368.out 2).trans rfl⟩ (fun hHeld => ?_)
                clear hK K
                refine norm_ (a' := ?_) ?_ ?_
                rotate_left
                ·show Act.put _ (some 78) _ = _
                 simp only [Act.put, List.setIfInBounds_toArray, List.set_cons_zero, List.set_cons_succ, i64_w, i32_w]
                 rfl
                refine one_ (i := 8) (N := some 72) #[true, true, true, true, true, true, true, true, true, false, false, true, true, true, true, false, false, false, false, false] rfl rfl (one_of HT_.out (by kernel_rfl)) (by decide) (fun K hK => ?_)
                refine goes_ Try.func97 (by kernel_rfl) rfl #[.int .i64 t366, .int .i64 (wrap64 ((wrap64 (t370 + t375)) + a1))] (by rfl) rfl rfl ZA ?_
                with_reducible refine (impl_field_mod.calls t366 (wrap64 ((wrap64 (t370 + t375)) + a1)) t376 _ A42.out).mono ?_
                rintro e w' ⟨rfl, ⟨nd, rfl⟩⟩
                refine ⟨_, rfl, ?_⟩
                refine hK.out _ _ ⟨(blk_cell BK368.out 0).trans rfl, (blk_cell BK368.out 1).trans rfl, (blk_cell BK368.out 2).trans rfl⟩ (fun hHeld => ?_)
                clear hK K
                refine norm_ (a' := ?_) ?_ ?_
                rotate_left
                ·show Act.put _ (some 72) _ = _
                 simp only [Act.put, List.setIfInBounds_toArray, List.set_cons_zero, List.set_cons_succ, i64_w, i32_w]
                 rfl
                refine one_ (i := 9) (N := some 73) #[true, true, true, true, true, true, true, true, true, true, false, true, true, true, true, false, false, false, false, false] rfl rfl (one_of HT_.out (by kernel_rfl)) (by decide) (fun K hK => ?_)
                refine Kd.R_lit_step (Kd.int .i64) _ 2 ?hg (N := 73) ?hd (xs := ([t376] : List Int)) (inner := [.int .i64 t376]) (ok := fun _ => True) (okp := fun _ => True) ?hr ?hp (fun _ hk => hk) trivial (Below.refl _ _) (Nat.le_refl _) (by simp) ?_; (case hd => rfl); (case hg => rfl); (case hr => first | (go_simp; done) | (go_simp; rfl)); (case hp => exact (Reps.one (show Kd.M (Kd.int .i64) _ _ _ t376 [.int .i64 t376] from rfl) (Reps.none _ _)))
                intro v378 w53 ho54 hb hg_ hnew_
                clear hg_ hnew_
                (first | rw [← Ny377.out] at ho54 | (simp only [Int.reduceToNat] at ho54; rw [← Ny377.out] at ho54))
                have n0_ := Aside0.mk (Kd.R_elder' (ZR HO_369001) (Kd.R_base ho54) hb)
                have n1_ := Aside0.mk (Kd.R_elder' (ZR HO_369002) (Kd.R_base ho54) hb)
                have n2_ := Aside0.mk (Kd.R_elder' (ZR HO385) (Kd.R_base ho54) hb)
                have n3_ := Aside0.mk (Kd.R_lower (Kd.R_new' (Kd.R_new' (Kd.R_new' ho54 (Kd.R_lt (ZR HO_369001))) (Kd.R_lt (ZR HO_369002))) (Kd.R_lt (ZR HO385))) (below_size ZB))
                have n4_ := ZL BK364 hb
                have n5_ := ZL BK365 hb
                have n6_ := ZL BK368 hb
                have n7_ := Aside0.mk (below_step ZB hb)
                clear HO_369001
                clear HO_369002
                clear HO385
                clear BK364
                clear BK365
                clear BK368
                clear HB
                have HO_369001 := n0_
                have HO_369002 := n1_
                have HO385 := n2_
                have HO379 := n3_
                have BK364 := n4_
                have BK365 := n5_
                have BK368 := n6_
                have HB := n7_
                clear n0_ n1_ n2_ n3_ n4_ n5_ n6_ n7_
                clear hb ho54
                obtain ⟨Ao56, co56, eo56⟩ := Kd.R_slice HO379.out
                (first | subst eo56 | (injection eo56 with f1_ f2_ f3_; have f4_ := f1_.symm; have f5_ := f3_.symm; clear f1_ f2_ f3_; subst f4_; subst f5_))
                refine hK.out _ _ ⟨(blk_cell BK368.out 0).trans rfl, (blk_cell BK368.out 1).trans rfl, (blk_cell BK368.out 2).trans rfl⟩ (fun hHeld => ?_)
                clear hK K
                refine norm_ (a' := ?_) ?_ ?_
                rotate_left
                ·show Act.put _ (some 73) _ = _
                 simp only [Act.put, List.setIfInBounds_toArray, List.set_cons_zero, List.set_cons_succ, i64_w, i32_w]
                 rfl
                refine one_ (i := 10) (N := some 74) #[true, true, true, true, true, true, true, true, true, true, true, true, true, true, true, false, false, false, false, false] rfl rfl (one_of HT_.out (by kernel_rfl)) (by decide) (fun K hK => ?_)
                refine Kd.R_append_rows_step (Kd.int .i64) (w0 := w) w.heap.size (by rfl) (.tmp 65) (.tmp 73) 22 2 (.int .i64 0) 8 rfl Try.underlying22 info2 rfl (by decide) (by omega) (.slice Ao48 x369001_1.length co48) x369001_1 y377 _ _ _ (fun k_ => some k_ ≠ (.slice Ao49 x369002_1.length co49 : Value).ownBlock ∧ some k_ ≠ (v384 : Value).ownBlock ∧ some k_ ≠ (.slice Ao56 y377.length co56 : Value).ownBlock) (fun _ => False) rfl rfl ?aO ?aR (fun _ _ h => h) (fun _ h => h.elim) ?aF ?aB ?aS ?aL ?_
                (case aR => repeat (first | exact (Kd.R_reads' HO379.out).2.2 | (with_reducible refine Kd.C_alloc ?_ _) | (with_reducible refine Kd.C_drewN ?_ _) | (with_reducible refine Kd.C_drew ?_)))
                (case aB => exact ZB)
                (case aF => exact (fun k_ hk => ⟨Kd.fresh' (Kd.R_lt (ZR HO_369002)) k_ hk, Kd.fresh' (Kd.R_lt (ZR HO385)) k_ hk, Kd.fresh' (Kd.R_lt (ZR HO379)) k_ hk⟩))
                (case aO => exact (by refine ZQ ?_; exact Kd.R_mono HO_369001.out (fun _ hk => (And.intro (hk.1.1) ((And.intro (hk.1.2) (hk.2)))))))
                (case aS => exact (below_size ZB))
                (case aL => have := LMc43.out; omega)
                intro v381 w55 ho hb hg hat
                rw [← Ny380.out] at ho
                have n0_ := Aside0.mk (Kd.R_after (ok := (fun k_ => some k_ ≠ (v384 : Value).ownBlock ∧ some k_ ≠ (.slice Ao56 y377.length co56 : Value).ownBlock)) (by refine ZQ ?_; exact Kd.R_mono HO_369002.out (fun _ hk => (And.intro ((And.intro (hk.1.2) (hk.2))) (hk.1.1)))) hg hat)
                have n1_ := Aside0.mk (blk_grown (ZK BK364) hg (Kd.R_ne HO_369001.out BK364.out (by decide)))
                have n2_ := Aside0.mk (blk_grown (ZK BK365) hg (Kd.R_ne HO_369001.out BK365.out (by decide)))
                have n3_ := Aside0.mk (blk_grown (ZK BK368) hg (Kd.R_ne HO_369001.out BK368.out (by decide)))
                have n4_ := Aside0.mk (Kd.R_after (ok := (fun k_ => some k_ ≠ (.slice Ao49 x369002_1.length co49 : Value).ownBlock ∧ some k_ ≠ (.slice Ao56 y377.length co56 : Value).ownBlock)) (by refine ZQ ?_; exact Kd.R_mono HO385.out (fun _ hk => (And.intro ((And.intro (hk.1.2) (hk.2))) (hk.1.1.2)))) hg hat)
                have n5_ := Aside0.mk (Kd.R_after (ok := (fun k_ => some k_ ≠ (.slice Ao49 x369002_1.length co49 : Value).ownBlock ∧ some k_ ≠ (v384 : Value).ownBlock)) (by refine ZQ ?_; exact Kd.R_mono HO379.out (fun _ hk => (And.intro ((And.intro (hk.1.2) (hk.2))) (hk.1.1.2)))) hg hat)
                have n6_ := Aside0.mk (hb)
                have n7_ := Aside0.mk (ho)
                clear HO_369002
                clear BK364
                clear BK365
                clear BK368
                clear HO385
                clear HO379
                clear HB
                clear HO_369001
                have HO_369002 := n0_
                have BK364 := n1_
                have BK365 := n2_
                have BK368 := n3_
                have HO385 := n4_
                have HO379 := n5_
                have HB := n6_
                have HO382 := n7_
                clear n0_ n1_ n2_ n3_ n4_ n5_ n6_ n7_
                clear ho hb hg hat
                refine hK.out _ _ ⟨(blk_cell BK368.out 0).trans rfl, (blk_cell BK368.out 1).trans rfl, (blk_cell BK368.out 2).trans rfl⟩ (fun hHeld => ?_)
                clear hK K
                refine norm_ (a' := ?_) ?_ ?_
                rotate_left
                ·show Act.put _ (some 74) _ = _
                 simp only [Act.put, List.setIfInBounds_toArray, List.set_cons_zero, List.set_cons_succ, i64_w, i32_w]
                 rfl
                refine Zpt 16 (some 80) (h := ?_)
                exact norm_ (by simp only [putAll, Act.put, List.setIfInBounds_toArray, List.set_cons_zero, List.set_cons_succ]) (hCont (.slice Ao56 y377.length co56, v381, v384) _ ⟨hHeld, (by refine ZQ ?_; exact Kd.R_mono HO379.out (fun _ hk => (And.intro (hk.2) ((And.intro (hk.1.2) (hk.1.1)))))), (by refine ZQ ?_; exact Kd.R_mono HO382.out (fun _ hk => (And.intro (hk.2.2) ((And.intro (hk.2.1) (hk.1)))))), (by refine ZQ ?_; exact Kd.R_mono HO385.out (fun _ hk => (And.intro (hk.1.2) ((And.intro (hk.2) (hk.1.1)))))), (by refine ZQ ?_; exact Kd.R_mono HO_369002.out (fun _ hk => (And.intro (hk.1.2) ((And.intro (hk.2) (hk.1.1)))))), (ZK BK364), (ZK BK365), (ZK BK368), ZB⟩)
              rintro ⟨v378, v381, v384⟩ w57 ⟨hS_, h0_, h1_, h2_, h3_, h4_, h5_, h6_, h7_⟩
              have n0_ : Aside0 (Kd.R (Kd.int .i64) 2 w57 w.heap.size (fun k_ => some k_ ≠ (v381 : Value).ownBlock ∧ some k_ ≠ (v384 : Value).ownBlock ∧ some k_ ≠ (.slice Ao49 x369002_1.length co49 : Value).ownBlock) v378 y377) := ⟨h0_⟩
              have n1_ : Aside0 (Kd.R (Kd.int .i64) 2 w57 w.heap.size (fun k_ => some k_ ≠ (v378 : Value).ownBlock ∧ some k_ ≠ (v384 : Value).ownBlock ∧ some k_ ≠ (.slice Ao49 x369002_1.length co49 : Value).ownBlock) v381 y380) := ⟨h1_⟩
              have n2_ : Aside0 (Kd.R (Kd.int .i64) 2 w57 w.heap.size (fun k_ => some k_ ≠ (v378 : Value).ownBlock ∧ some k_ ≠ (v381 : Value).ownBlock ∧ some k_ ≠ (.slice Ao49 x369002_1.length co49 : Value).ownBlock) v384 y383) := ⟨h2_⟩
              have n3_ : Aside0 (Kd.R (Kd.int .i64) 2 w57 w.heap.size (fun k_ => some k_ ≠ (v378 : Value).ownBlock ∧ some k_ ≠ (v381 : Value).ownBlock ∧ some k_ ≠ (v384 : Value).ownBlock) (.slice Ao49 x369002_1.length co49) x369002_1) := ⟨h3_⟩
              have n4_ : Aside0 (w57.heap[gb364]? = some (.cells #[.int .i64 a0_0, .slice (some ad369) l0_1.length c0_1, .slice (some ad372) l0_2.length c0_2] 29 (0, 0))) := ⟨h4_⟩
              have n5_ : Aside0 (w57.heap[gb365]? = some (.cells #[.int .i64 x366000_1, .slice none 0 0, .slice none 0 0] 29 (0, 0))) := ⟨h5_⟩
              have n6_ : Aside0 (w57.heap[gb368]? = some (.cells #[.int .i64 a0_0, .slice Ao48 x369001_1.length co48, .slice Ao49 x369002_1.length co49] 29 (0, 0))) := ⟨h6_⟩
              have n7_ : Aside0 (Below w.heap.size w w57) := ⟨h7_⟩
              clear HO_369001
              clear HO_369002
              clear BK364
              clear BK365
              clear BK368
              clear HB
              clear h0_ h1_ h2_ h3_ h4_ h5_ h6_ h7_
              have HO379 := n0_
              have HO382 := n1_
              have HO385 := n2_
              have HO_369002 := n3_
              have BK364 := n4_
              have BK365 := n5_
              have BK368 := n6_
              have HB := n7_
              clear n0_ n1_ n2_ n3_ n4_ n5_ n6_ n7_
              have hHeld : w57.cell? ⟨gb368, 0, none⟩ = some (.int .i64 a0_0) ∧ w57.cell? ⟨gb368, 1, none⟩ = some (.slice Ao48 x369001_1.length co48) ∧ w57.cell? ⟨gb368, 2, none⟩ = some (.slice Ao49 x369002_1.length co49) := hS_
              obtain ⟨Ao59, co59, eo59⟩ := Kd.R_slice HO385.out
              (first | subst eo59 | (injection eo59 with f1_ f2_ f3_; have f4_ := f1_.symm; have f5_ := f3_.symm; clear f1_ f2_ f3_; subst f4_; subst f5_))
              refine norm_ (a' := ?_) ?_ ?_
              rotate_left
              ·simp only [putAll, Act.put, List.setIfInBounds_toArray, List.set_cons_zero, List.set_cons_succ]
               rfl
              refine one_ (i := 15) (N := some 79) #[true, true, true, true, true, true, true, true, true, true, true, true, true, true, true, true, true, false, false, false] rfl rfl (one_of HT_.out (by kernel_rfl)) (by decide) (fun K hK => ?_)
              refine Kd.R_append_rows_step (Kd.int .i64) (w0 := w) w.heap.size (by rfl) (.tmp 76) (.tmp 78) 22 2 (.int .i64 0) 8 rfl Try.underlying22 info2 rfl (by decide) (by omega) (.slice Ao49 x369002_1.length co49) x369002_1 y383 _ _ _ (fun k_ => some k_ ≠ (v378 : Value).ownBlock ∧ some k_ ≠ (v381 : Value).ownBlock ∧ some k_ ≠ (.slice Ao59 y383.length co59 : Value).ownBlock) (fun _ => False) rfl rfl ?aO ?aR (fun _ _ h => h) (fun _ h => h.elim) ?aF ?aB ?aS ?aL ?_
              (case aR => repeat (first | exact (Kd.R_reads' HO385.out).2.2 | (with_reducible refine Kd.C_alloc ?_ _) | (with_reducible refine Kd.C_drewN ?_ _) | (with_reducible refine Kd.C_drew ?_)))
              (case aB => exact ZB)
              (case aF => exact (fun k_ hk => ⟨Kd.fresh' (Kd.R_lt (ZR HO379)) k_ hk, Kd.fresh' (Kd.R_lt (ZR HO382)) k_ hk, Kd.fresh' (Kd.R_lt (ZR HO385)) k_ hk⟩))
              (case aO => exact (ZR HO_369002))
              (case aS => exact (below_size ZB))
              (case aL => have := LMc44.out; omega)
              intro v387 w58 ho hb hg hat
              rw [← Ny386.out] at ho
              have n0_ := Aside0.mk (blk_grown (ZK BK364) hg (Kd.R_ne HO_369002.out BK364.out (by decide)))
              have n1_ := Aside0.mk (blk_grown (ZK BK365) hg (Kd.R_ne HO_369002.out BK365.out (by decide)))
              have n2_ := Aside0.mk (blk_grown (ZK BK368) hg (Kd.R_ne HO_369002.out BK368.out (by decide)))
              have n3_ := Aside0.mk (Kd.R_after (ok := (fun k_ => some k_ ≠ (v381 : Value).ownBlock ∧ some k_ ≠ (.slice Ao59 y383.length co59 : Value).ownBlock)) (by refine ZQ ?_; exact Kd.R_mono HO379.out (fun _ hk => (And.intro ((And.intro (hk.1) (hk.2.1))) (hk.2.2)))) hg hat)
              have n4_ := Aside0.mk (Kd.R_after (ok := (fun k_ => some k_ ≠ (v378 : Value).ownBlock ∧ some k_ ≠ (.slice Ao59 y383.length co59 : Value).ownBlock)) (by refine ZQ ?_; exact Kd.R_mono HO382.out (fun _ hk => (And.intro ((And.intro (hk.1) (hk.2.1))) (hk.2.2)))) hg hat)
              have n5_ := Aside0.mk (Kd.R_after (ok := (fun k_ => some k_ ≠ (v378 : Value).ownBlock ∧ some k_ ≠ (v381 : Value).ownBlock)) (by refine ZQ ?_; exact Kd.R_mono HO385.out (fun _ hk => (And.intro ((And.intro (hk.1) (hk.2.1))) (hk.2.2)))) hg hat)
              have n6_ := Aside0.mk (hb)
              have n7_ := Aside0.mk (ho)
              clear BK364
              clear BK365
              clear BK368
              clear HO379
              clear HO382
              clear HO385
              clear HB
              clear HO_369002
              have BK364 := n0_
              have BK365 := n1_
              have BK368 := n2_
              have HO379 := n3_
              have HO382 := n4_
              have HO385 := n5_
              have HB := n6_
              have HO388 := n7_
              clear n0_ n1_ n2_ n3_ n4_ n5_ n6_ n7_
              clear ho hb hg hat
              obtain ⟨Ao60, co60, eo60⟩ := Kd.R_slice HO382.out
              (first | subst eo60 | (injection eo60 with f1_ f2_ f3_; have f4_ := f1_.symm; have f5_ := f3_.symm; clear f1_ f2_ f3_; subst f4_; subst f5_))
              obtain ⟨Ao62, co62, eo62⟩ := Kd.R_slice HO388.out
              (first | subst eo62 | (injection eo62 with f1_ f2_ f3_; have f4_ := f1_.symm; have f5_ := f3_.symm; clear f1_ f2_ f3_; subst f4_; subst f5_))
              refine hK.out _ _ ⟨(blk_cell BK368.out 0).trans rfl, (blk_cell BK368.out 1).trans rfl, (blk_cell BK368.out 2).trans rfl⟩ (fun hHeld => ?_)
              clear hK K
              refine norm_ (a' := ?_) ?_ ?_
              rotate_left
              ·show Act.put _ (some 79) _ = _
               simp only [Act.put, List.setIfInBounds_toArray, List.set_cons_zero, List.set_cons_succ, i64_w, i32_w]
               rfl
              refine last_ (i := 17) (N := none) #[true, true, true, true, true, true, true, true, true, true, true, true, true, true, true, true, true, true, false, false] rfl rfl (one_of HT_.out (by kernel_rfl)) (by decide) (fun K hK => ?_)
              have hs61 : w58.cell? ⟨gb368, 1, none⟩ = some (.slice Ao48 x369001_1.length co48) := (blk_cell BK368.out 1).trans rfl
              have hfs61 := blk_frozen BK368.out 1
              have hns61_0 := NB364_368.out
              have hns61_1 := NB365_368.out
              have hms61_0 := NB368_364.out
              have hms61_1 := NB368_365.out
              refine skip_ (w1 := ?_) (by rfl) rfl ?_ ?_
              rotate_left
              ·go_simp
               rfl
              refine hK.out _ _ ?_
              clear hK K
              refine Zpt 18 (some 81) (h := ?_)
              refine last_ (i := 19) (N := none) #[true, true, true, true, true, true, true, true, true, true, true, true, true, true, true, true, true, true, true, true] rfl rfl (one_of HT_.out (by kernel_rfl)) (by decide) (fun K hK => ?_)
              have hs63 : w58.cell? ⟨gb368, 2, none⟩ = some (.slice Ao49 x369002_1.length co49) := (blk_cell BK368.out 2).trans rfl
              have hfs63 := blk_frozen BK368.out 2
              have hns63_0 := NB364_368.out
              have hns63_1 := NB365_368.out
              have hms63_0 := NB368_364.out
              have hms63_1 := NB368_365.out
              refine skip_ (w1 := ?_) (by rfl) rfl ?_ ?_
              rotate_left
              ·go_simp
               rfl
              refine hK.out _ _ ?_
              clear hK K
              refine done_ (done_of HT_.out (by kernel_rfl)) ?_
              try go_wp2
              go_roundg k1
              case measure => have := HK1.out; omega
              case rel => exact ⟨(t375), (ji38), (x366000_1), (y380), (y386), (.slice Ao60 y380.length co60), (.slice Ao62 y386.length co62), (by first | rfl | (simp; done) | (simp [*]; done)), (by first | rfl | (simp; done) | (simp only [← hji38] <;> (first | rfl | simp)) | (simp [*]; done)), H', ⟨by have := HK1.out; omega⟩, ⟨by refine ZQ ?_; exact Kd.R_mono (Kd.R_far (p := ⟨gb368, 2, none⟩) (Kd.R_far (p := ⟨gb368, 1, none⟩) (Kd.R_types HO382.out BK368.out (by decide)) (fun _ hk => hk.2) (.slice Ao60 y380.length co60)) (fun _ hk => hk.2) (.slice Ao62 y386.length co62)) (fun _ hk => hk.1.2)⟩, ⟨by refine ZQ ?_; exact Kd.R_mono (Kd.R_far (p := ⟨gb368, 2, none⟩) (Kd.R_far (p := ⟨gb368, 1, none⟩) (Kd.R_types HO388.out BK368.out (by decide)) (fun _ hk => hk.2) (.slice Ao60 y380.length co60)) (fun _ hk => hk.2) (.slice Ao62 y386.length co62)) (fun _ hk => hk.1.2.1)⟩, ⟨by refine ZS ?_; refine blk_far ?_ NB364_368.out _; refine ZS ?_; refine blk_far ?_ NB364_368.out _; refine ZS ?_; exact BK364.out⟩, ⟨by refine ZS ?_; refine blk_far ?_ NB365_368.out _; refine ZS ?_; refine blk_far ?_ NB365_368.out _; refine ZS ?_; exact BK365.out⟩, ⟨by refine ZS ?_; refine blk_put (cs := #[.int .i64 a0_0, .slice Ao60 y380.length co60, .slice Ao49 x369002_1.length co49]) ?_ 2 _ rfl; refine ZS ?_; refine blk_put (cs := #[.int .i64 a0_0, .slice Ao48 x369001_1.length co48, .slice Ao49 x369002_1.length co49]) ?_ 1 _ rfl; refine ZS ?_; exact BK368.out⟩, ⟨ZB⟩⟩
             ·rw [if_neg c44] at H
              exact absurd H (by simp)
            ·rw [if_neg c43] at H
             exact absurd H (by simp)
           ·rw [if_neg c40] at H
            exact absurd H (by simp)
          ·rw [if_neg c39] at H
           exact absurd H (by simp)
         ·rw [if_neg c36] at H
          exact absurd H (by simp)
        ·rw [if_neg c35] at H
         have c35b0 : (x25_1 == 0) = false := beq_eq_false_iff_ne.mpr c35
         have c35b1 : (x25_1 != 0) = true := bne_iff_ne.mpr c35
         obtain ⟨ji64, hji64⟩ : ∃ j_ : Int, (wrap64 (x25_1 + 1)) = j_ := ⟨_, rfl⟩
         replace H : (if 0 ≤ (ji64) then (if (ji64) < (l0_2.length : Int) then ((impl_field_div.f k1 t366 (rd l0_2 (ji64)) t370).bind fun t390 => ((impl_field_mod.f t366 (wrap64 ((wrap64 (t370 + t390)) + a1))).bind fun t391 => ((some (([t391] : List Int) : List Int)).bind fun y392 => (if x369001_1.length + y392.length < 17592186044416 then ((some (([t371] : List Int) : List Int)).bind fun y398 => (if x369002_1.length + y398.length < 17592186044416 then (impl_Jacobi_step.l0 k1 a1 t366 t390 (wrap64 (t367 - 1)) ji64 a0_0 l0_1 l0_2 a0_0 (x369001_1 ++ y392) (x369002_1 ++ y398)) else (none))) else (none))))) else (none)) else (none)) = some (r1, r2, r3, r4) := by first | (rw [hji64] at H; exact H) | (simp only [hji64] at H ⊢; exact H)
         (try rw [hji64] at A27)
         (try rw [hji64] at A34)
         have hji64w : (IntKind.i64.wrap (x25_1 + 1)) = ji64 := (i64_w _).trans hji64
         by_cases c65 : 0 ≤ (ji64)
         ·rw [if_pos c65] at H
          have c65b0 : decide (0 ≤ (ji64)) = true := decide_eq_true c65
          clear c65
          by_cases c66 : (ji64) < (l0_2.length : Int)
          ·rw [if_pos c66] at H
           have c66b0 : decide ((ji64) < (l0_2.length : Int)) = true := decide_eq_true c66
           clear c66
           replace H := Option.bind_eq_some_iff.mp H
           obtain ⟨t390, A670, H⟩ := H
           replace H : ((impl_field_mod.f t366 (wrap64 ((wrap64 (t370 + t390)) + a1))).bind fun t391 => ((some (([t391] : List Int) : List Int)).bind fun y392 => (if x369001_1.length + y392.length < 17592186044416 then ((some (([t371] : List Int) : List Int)).bind fun y398 => (if x369002_1.length + y398.length < 17592186044416 then (impl_Jacobi_step.l0 k1 a1 t366 t390 (wrap64 (t367 - 1)) ji64 a0_0 l0_1 l0_2 a0_0 (x369001_1 ++ y392) (x369002_1 ++ y398)) else (none))) else (none)))) = some (r1, r2, r3, r4) := H
           have A67 := Aside0.mk A670
           clear A670
           replace H := Option.bind_eq_some_iff.mp H
           obtain ⟨t391, A680, H⟩ := H
           replace H : ((some (([t391] : List Int) : List Int)).bind fun y392 => (if x369001_1.length + y392.length < 17592186044416 then ((some (([t371] : List Int) : List Int)).bind fun y398 => (if x369002_1.length + y398.length < 17592186044416 then (impl_Jacobi_step.l0 k1 a1 t366 t390 (wrap64 (t367 - 1)) ji64 a0_0 l0_1 l0_2 a0_0 (x369001_1 ++ y392) (x369002_1 ++ y398)) else (none))) else (none))) = some (r1, r2, r3, r4) := H
           have A68 := Aside0.mk A680
           clear A680
           obtain ⟨y392, hy392⟩ : ∃ y_ : List Int, y_ = (([t391] : List Int)) := ⟨_, rfl⟩
           replace H : (if x369001_1.length + y392.length < 17592186044416 then ((some (([t371] : List Int) : List Int)).bind fun y398 => (if x369002_1.length + y398.length < 17592186044416 then (impl_Jacobi_step.l0 k1 a1 t366 t390 (wrap64 (t367 - 1)) ji64 a0_0 l0_1 l0_2 a0_0 (x369001_1 ++ y392) (x369002_1 ++ y398)) else (none))) else (none)) = some (r1, r2, r3, r4) := by first | (rw [hy392]; with_reducible exact H) | (have H2_ := (Option.bind_some _ _).symm.trans H; rw [hy392]; with_reducible exact H2_) | (have H2_ := (Option.bind_some _ _).symm.trans H; with_reducible exact H2_) | with_reducible exact H | (rw [hy392]; exact H) | exact H
           have Ny392 := Aside0.mk hy392
           clear hy392
           by_cases c69 : x369001_1.length + y392.length < 17592186044416
           ·rw [if_pos c69] at H
            have LMc69 := Aside0.mk c69
            clear c69
            obtain ⟨y395, hy395⟩ : ∃ y_ : List Int, y_ = (x369001_1 ++ y392) := ⟨_, rfl⟩
            replace H : ((some (([t371] : List Int) : List Int)).bind fun y398 => (if x369002_1.length + y398.length < 17592186044416 then (impl_Jacobi_step.l0 k1 a1 t366 t390 (wrap64 (t367 - 1)) ji64 a0_0 l0_1 l0_2 a0_0 y395 (x369002_1 ++ y398)) else (none))) = some (r1, r2, r3, r4) := by first | (rw [hy395]; with_reducible exact H) | (have H2_ := (Option.bind_some _ _).symm.trans H; rw [hy395]; with_reducible exact H2_) | (have H2_ := (Option.bind_some _ _).symm.trans H; with_reducible exact H2_) | with_reducible exact H | (rw [hy395]; exact H) | exact H
            have Ny395 := Aside0.mk hy395
            clear hy395
            obtain ⟨y398, hy398⟩ : ∃ y_ : List Int, y_ = (([t371] : List Int)) := ⟨_, rfl⟩
            replace H : (if x369002_1.length + y398.length < 17592186044416 then (impl_Jacobi_step.l0 k1 a1 t366 t390 (wrap64 (t367 - 1)) ji64 a0_0 l0_1 l0_2 a0_0 y395 (x369002_1 ++ y398)) else (none)) = some (r1, r2, r3, r4) := by first | (rw [hy398]; with_reducible exact H) | (have H2_ := (Option.bind_some _ _).symm.trans H; rw [hy398]; with_reducible exact H2_) | (have H2_ := (Option.bind_some _ _).symm.trans H; with_reducible exact H2_) | with_reducible exact H | (rw [hy398]; exact H) | exact H
            have Ny398 := Aside0.mk hy398
            clear hy398
            by_cases c70 : x369002_1.length + y398.length < 17592186044416
            ·rw [if_pos c70] at H
             have LMc70 := Aside0.mk c70
             clear c70
             obtain ⟨y401, hy401⟩ : ∃ y_ : List Int, y_ = (x369002_1 ++ y398) := ⟨_, rfl⟩
             replace H : (impl_Jacobi_step.l0 k1 a1 t366 t390 (wrap64 (t367 - 1)) ji64 a0_0 l0_1 l0_2 a0_0 y395 y401) = some (r1, r2, r3, r4) := by first | (rw [hy401]; with_reducible exact H) | (have H2_ := (Option.bind_some _ _).symm.trans H; rw [hy401]; with_reducible exact H2_) | (have H2_ := (Option.bind_some _ _).symm.trans H; with_reducible exact H2_) | with_reducible exact H | (rw [hy401]; exact H) | exact H
             have Ny401 := Aside0.mk hy401
             clear hy401
             have H' := Aside0.mk H
             clear H
             have hnb71 := NB364_365.out
             have hnc71 := NB365_364.out
             have hnb72 := NB364_368.out
             have hnc72 := NB368_364.out
             obtain ⟨hcz73_0, hcz73_1, hcz73_2, hfz73_0, hfz73_1, hfz73_2⟩ := ZD3 BK364
             have p369 : 0 ≤ (x25_1 : Int) := of_decide_eq_true (by first | (with_reducible assumption) | assumption)
             have q369 : x25_1 < (l0_1.length : Int) := of_decide_eq_true (by first | (with_reducible assumption) | assumption)
             obtain ⟨ad369, e369, hx369_0⟩ := Kd.at_int HR0_1.out x25_1 p369 q369
             cases e369
             replace hx369_0 := (HB.out.cell (World.block_lt_of_cell? w _ hx369_0)).trans hx369_0
             replace p369 := eq_true p369
             replace q369 := eq_true q369
             try go_wp2_with (first | ((with_reducible refine gate_callee (f := 97) rfl ?_); refine goesL_ (some 38) rfl rfl Try.func97 (by kernel_rfl) rfl #[.int .i64 t366, .int .i64 (wrap64 ((wrap64 ((rd l0_1 x25_1) - a1)) - x9_1))] rfl ZA ?_; (with_reducible refine (impl_field_mod.calls t366 (wrap64 ((wrap64 ((rd l0_1 x25_1) - a1)) - x9_1)) t370 _ A27.out).mono ?_); rintro e w' ⟨rfl, ⟨nd, rfl⟩⟩; refine ⟨_, rfl, ?_⟩; (try (rw [drewN_self wr]; generalize hq_ : World.drewN wr _ = wr; have n0_ : Aside0 (Kd.R (Kd.int .i64) 2 wr w.heap.size (fun k_ => some k_ ≠ (u369002 : Value).ownBlock) u369001 x369001_1) := ⟨by rw [← hq_]; exact (ZR HO_369001)⟩; have n1_ : Aside0 (Kd.R (Kd.int .i64) 2 wr w.heap.size (fun k_ => some k_ ≠ (u369001 : Value).ownBlock) u369002 x369002_1) := ⟨by rw [← hq_]; exact (ZR HO_369002)⟩; have n2_ : Aside0 (wr.heap[gb364]? = some (.cells #[.int .i64 a0_0, .slice (some ad369) l0_1.length c0_1, .slice A0_2 l0_2.length c0_2] 29 (0, 0))) := ⟨by rw [← hq_]; exact (ZK BK364)⟩; have n3_ : Aside0 (wr.heap[gb365]? = some (.cells #[.int .i64 x366000_1, .slice none 0 0, .slice none 0 0] 29 (0, 0))) := ⟨by rw [← hq_]; exact (ZK BK365)⟩; have n4_ : Aside0 (wr.heap[gb368]? = some (.cells #[.int .i64 a0_0, u369001, u369002] 29 (0, 0))) := ⟨by rw [← hq_]; exact (ZK BK368)⟩; have n5_ : Aside0 (Below w.heap.size w wr) := ⟨by rw [← hq_]; exact ZB⟩; clear HO_369001 HO_369002 BK364 BK365 BK368 HB hq_; have HO_369001 := n0_; have HO_369002 := n1_; have BK364 := n2_; have BK365 := n3_; have BK368 := n4_; have HB := n5_; clear n0_ n1_ n2_ n3_ n4_ n5_)); (try (obtain ⟨hcy364_0, hcy364_1, hcy364_2, hfy364_0, hfy364_1, hfy364_2⟩ := ZD3 BK364)); (try (obtain ⟨hcy365_0, hcy365_1, hcy365_2, hfy365_0, hfy365_1, hfy365_2⟩ := ZD3 BK365)); (try (obtain ⟨hcy368_0, hcy368_1, hcy368_2, hfy368_0, hfy368_1, hfy368_2⟩ := ZD3 BK368))) | ((with_reducible refine gate_callee (f := 101) rfl ?_); refine goesL_ (some 45) rfl rfl Try.func101 (by kernel_rfl) rfl #[.int .i64 t366, .int .i64 t370, .int .i64 x9_1] rfl ZA ?_; (with_reducible refine (impl_field_mul.calls t366 t370 x9_1 t371 _ A34.out).mono ?_); rintro e w' ⟨rfl, ⟨nd, rfl⟩⟩; refine ⟨_, rfl, ?_⟩; (try (rw [drewN_self wr]; generalize hq_ : World.drewN wr _ = wr; have n0_ : Aside0 (Kd.R (Kd.int .i64) 2 wr w.heap.size (fun k_ => some k_ ≠ (u369002 : Value).ownBlock) u369001 x369001_1) := ⟨by rw [← hq_]; exact (ZR HO_369001)⟩; have n1_ : Aside0 (Kd.R (Kd.int .i64) 2 wr w.heap.size (fun k_ => some k_ ≠ (u369001 : Value).ownBlock) u369002 x369002_1) := ⟨by rw [← hq_]; exact (ZR HO_369002)⟩; have n2_ : Aside0 (wr.heap[gb364]? = some (.cells #[.int .i64 a0_0, .slice (some ad369) l0_1.length c0_1, .slice A0_2 l0_2.length c0_2] 29 (0, 0))) := ⟨by rw [← hq_]; exact (ZK BK364)⟩; have n3_ : Aside0 (wr.heap[gb365]? = some (.cells #[.int .i64 x366000_1, .slice none 0 0, .slice none 0 0] 29 (0, 0))) := ⟨by rw [← hq_]; exact (ZK BK365)⟩; have n4_ : Aside0 (wr.heap[gb368]? = some (.cells #[.int .i64 a0_0, u369001, u369002] 29 (0, 0))) := ⟨by rw [← hq_]; exact (ZK BK368)⟩; have n5_ : Aside0 (Below w.heap.size w wr) := ⟨by rw [← hq_]; exact ZB⟩; clear HO_369001 HO_369002 BK364 BK365 BK368 HB hq_; have HO_369001 := n0_; have HO_369002 := n1_; have BK364 := n2_; have BK365 := n3_; have BK368 := n4_; have HB := n5_; clear n0_ n1_ n2_ n3_ n4_ n5_)); (try (obtain ⟨hcy364_0, hcy364_1, hcy364_2, hfy364_0, hfy364_1, hfy364_2⟩ := ZD3 BK364)); (try (obtain ⟨hcy365_0, hcy365_1, hcy365_2, hfy365_0, hfy365_1, hfy365_2⟩ := ZD3 BK365)); (try (obtain ⟨hcy368_0, hcy368_1, hcy368_2, hfy368_0, hfy368_1, hfy368_2⟩ := ZD3 BK368)); have p389 : 0 ≤ ((ji64) : Int) := of_decide_eq_true (by first | (with_reducible assumption) | assumption); have q389 : (ji64) < (l0_2.length : Int) := of_decide_eq_true (by first | (with_reducible assumption) | assumption); obtain ⟨ad389, e389, hx389_0⟩ := Kd.at_int HR0_2.out (ji64) p389 q389; cases e389; replace hx389_0 := (HB.out.cell (World.block_lt_of_cell? w _ hx389_0)).trans hx389_0; replace p389 := eq_true p389; replace q389 := eq_true q389) | ((with_reducible refine gate_callee (f := 102) rfl ?_); refine goesL_ (some 63) rfl rfl Try.func102 (by kernel_rfl) rfl #[.int .i64 t366, .int .i64 (rd l0_2 (ji64)), .int .i64 t370] rfl (by (try simp only [List.map_toArray, List.map_cons, List.map_nil]); first | done | (simp only [hji64]; rfl) | rfl | (simp only [List.length_drop, List.length_take]; rfl)) ?_; (with_reducible refine (impl_field_div.calls k1 t366 (rd l0_2 (ji64)) t370 t390 _ A67.out).mono ?_); rintro e w' ⟨rfl, ⟨nd, rfl⟩⟩; refine ⟨_, rfl, ?_⟩; (try (rw [drewN_self wr]; generalize hq_ : World.drewN wr _ = wr; have n0_ : Aside0 (Kd.R (Kd.int .i64) 2 wr w.heap.size (fun k_ => some k_ ≠ (u369002 : Value).ownBlock) u369001 x369001_1) := ⟨by rw [← hq_]; exact (ZR HO_369001)⟩; have n1_ : Aside0 (Kd.R (Kd.int .i64) 2 wr w.heap.size (fun k_ => some k_ ≠ (u369001 : Value).ownBlock) u369002 x369002_1) := ⟨by rw [← hq_]; exact (ZR HO_369002)⟩; have n2_ : Aside0 (wr.heap[gb364]? = some (.cells #[.int .i64 a0_0, .slice (some ad369) l0_1.length c0_1, .slice (some ad389) l0_2.length c0_2] 29 (0, 0))) := ⟨by rw [← hq_]; exact (ZK BK364)⟩; have n3_ : Aside0 (wr.heap[gb365]? = some (.cells #[.int .i64 x366000_1, .slice none 0 0, .slice none 0 0] 29 (0, 0))) := ⟨by rw [← hq_]; exact (ZK BK365)⟩; have n4_ : Aside0 (wr.heap[gb368]? = some (.cells #[.int .i64 a0_0, u369001, u369002] 29 (0, 0))) := ⟨by rw [← hq_]; exact (ZK BK368)⟩; have n5_ : Aside0 (Below w.heap.size w wr) := ⟨by rw [← hq_]; exact ZB⟩; clear HO_369001 HO_369002 BK364 BK365 BK368 HB hq_; have HO_369001 := n0_; have HO_369002 := n1_; have BK364 := n2_; have BK365 := n3_; have BK368 := n4_; have HB := n5_; clear n0_ n1_ n2_ n3_ n4_ n5_)); (try (obtain ⟨hcy364_0, hcy364_1, hcy364_2, hfy364_0, hfy364_1, hfy364_2⟩ := ZD3 BK364)); (try (obtain ⟨hcy365_0, hcy365_1, hcy365_2, hfy365_0, hfy365_1, hfy365_2⟩ := ZD3 BK365)); (try (obtain ⟨hcy368_0, hcy368_1, hcy368_2, hfy368_0, hfy368_1, hfy368_2⟩ := ZD3 BK368)); obtain ⟨Ao74, co74, eo74⟩ := Kd.R_slice HO_369001.out; subst eo74; obtain ⟨Ao75, co75, eo75⟩ := Kd.R_slice HO_369002.out; subst eo75))
             have n0_ := Aside0.mk (Kd.R_drew HO_369001.out)
             have n1_ := Aside0.mk (Kd.R_drew HO_369002.out)
             have n2_ := Aside0.mk (blk_drew BK364.out)
             have n3_ := Aside0.mk (blk_drew BK365.out)
             have n4_ := Aside0.mk (blk_drew BK368.out)
             have n5_ := Aside0.mk (below_drew1 HB.out)
             clear HO_369001
             clear HO_369002
             clear BK364
             clear BK365
             clear BK368
             clear HB
             have HO_369001 := n0_
             have HO_369002 := n1_
             have BK364 := n2_
             have BK365 := n3_
             have BK368 := n4_
             have HB := n5_
             clear n0_ n1_ n2_ n3_ n4_ n5_
             refine start_ (n := 20) (S := fun w' => w'.cell? ⟨gb368, 0, none⟩ = some (.int .i64 a0_0) ∧ w'.cell? ⟨gb368, 1, none⟩ = some (.slice Ao74 x369001_1.length co74) ∧ w'.cell? ⟨gb368, 2, none⟩ = some (.slice Ao75 x369002_1.length co75)) (ds := [17, 19]) #[false, false, false, false, false, false, false, false, false, false, false, false, false, false, false, false, false, false, false, false] (by kernel_rfl) rfl rfl ⟨(blk_cell BK368.out 0).trans rfl, (blk_cell BK368.out 1).trans rfl, (blk_cell BK368.out 2).trans rfl⟩ (fun hHeld => ?_); refine with_tabW impl_Jacobi_step.tab16 impl_Jacobi_step.bits16 (fun HT_ HW_ => ?_)
             generalize wr.drew = w76 at HO_369001 HO_369002 BK364 BK365 BK368 HB hHeld ⊢
             refine Zpt 0 (some 64) (h := ?_)
             refine Zpt 2 (some 66) (h := ?_)
             refine Zpt 3 (some 67) (h := ?_)
             refine Zpt 4 (some 68) (h := ?_)
             refine Zpt 5 (some 69) (h := ?_)
             refine Zpt 6 (some 70) (h := ?_)
             refine Zpt 7 (some 71) (h := ?_)
             refine Zpt 11 (some 75) (h := ?_)
             refine Zpt 13 (some 77) (h := ?_)
             refine ZtW3 1 (some 65) hHeld (h := ?_)
             refine ZtW3 12 (some 76) hHeld (h := ?_)
             refine join_ (σ := Value × Value × Value) 4 #[true, true, true, true, true, true, true, true, true, true, true, true, true, true, true, false, true, false, false, false] (fun s_ => [(72, .int .i64 t391), (73, s_.1), (74, s_.2.1), (78, s_.2.2), (80, .pointer (some ⟨gb368, 1, none⟩))]) (fun s_ w' => (w'.cell? ⟨gb368, 0, none⟩ = some (.int .i64 a0_0) ∧ w'.cell? ⟨gb368, 1, none⟩ = some (.slice Ao74 x369001_1.length co74) ∧ w'.cell? ⟨gb368, 2, none⟩ = some (.slice Ao75 x369002_1.length co75)) ∧ (Kd.R (Kd.int .i64) 2 w' w.heap.size (fun k_ => some k_ ≠ (s_.2.1 : Value).ownBlock ∧ some k_ ≠ (s_.2.2 : Value).ownBlock ∧ some k_ ≠ (.slice Ao75 x369002_1.length co75 : Value).ownBlock) s_.1 y392) ∧ (Kd.R (Kd.int .i64) 2 w' w.heap.size (fun k_ => some k_ ≠ (s_.1 : Value).ownBlock ∧ some k_ ≠ (s_.2.2 : Value).ownBlock ∧ some k_ ≠ (.slice Ao75 x369002_1.length co75 : Value).ownBlock) s_.2.1 y395) ∧ (Kd.R (Kd.int .i64) 2 w' w.heap.size (fun k_ => some k_ ≠ (s_.1 : Value).ownBlock ∧ some k_ ≠ (s_.2.1 : Value).ownBlock ∧ some k_ ≠ (.slice Ao75 x369002_1.length co75 : Value).ownBlock) s_.2.2 y398) ∧ (Kd.R (Kd.int .i64) 2 w' w.heap.size (fun k_ => some k_ ≠ (s_.1 : Value).ownBlock ∧ some k_ ≠ (s_.2.1 : Value).ownBlock ∧ some k_ ≠ (s_.2.2 : Value).ownBlock) (.slice Ao75 x369002_1.length co75) x369002_1) ∧ (w'.heap[gb364]? = some (.cells #[.int .i64 a0_0, .slice (some ad369) l0_1.length c0_1, .slice (some ad389) l0_2.length c0_2] 29 (0, 0))) ∧ (w'.heap[gb365]? = some (.cells #[.int .i64 x366000_1, .slice none 0 0, .slice none 0 0] 29 (0, 0))) ∧ (w'.heap[gb368]? = some (.cells #[.int .i64 a0_0, .slice Ao74 x369001_1.length co74, .slice Ao75 x369002_1.length co75] 29 (0, 0))) ∧ (Below w.heap.size w w')) ?_ ?_
             rotate_left
             ·intro hCont
              refine two_ (i := 8) (j := 14) (Ni := some 72) (Nj := some 78) #[true, true, true, true, true, true, true, true, true, false, false, true, true, true, false, false, false, false, false, false] #[true, true, true, true, true, true, true, true, false, false, false, true, true, true, true, false, false, false, false, false] rfl rfl rfl rfl (two_of HT_.out (by kernel_rfl)) (by decide) (by decide) (fun K hK => ?_) (fun K hK => ?_)
              ·skip
               refine goes_ Try.func97 (by kernel_rfl) rfl #[.int .i64 t366, .int .i64 (wrap64 ((wrap64 (t370 + t390)) + a1))] (by rfl) rfl rfl ZA ?_
               with_reducible refine (impl_field_mod.calls t366 (wrap64 ((wrap64 (t370 + t390)) + a1)) t391 _ A68.out).mono ?_
               rintro e w' ⟨rfl, ⟨nd, rfl⟩⟩
               refine ⟨_, rfl, ?_⟩
               refine hK.out _ _ ⟨(blk_cell BK368.out 0).trans rfl, (blk_cell BK368.out 1).trans rfl, (blk_cell BK368.out 2).trans rfl⟩ (fun hHeld => ?_)
               clear hK K
               refine norm_ (a' := ?_) ?_ ?_
               rotate_left
               ·show Act.put _ (some 72) _ = _
                simp only [Act.put, List.setIfInBounds_toArray, List.set_cons_zero, List.set_cons_succ, i64_w, i32_w]
                rfl
               refine two_ (i := 9) (j := 14) (Ni := some 73) (Nj := some 78) #[true, true, true, true, true, true, true, true, true, true, false, true, true, true, false, false, false, false, false, false] #[true, true, true, true, true, true, true, true, true, false, false, true, true, true, true, false, false, false, false, false] rfl rfl rfl rfl (two_of HT_.out (by kernel_rfl)) (by decide) (by decide) (fun K hK => ?_) (fun K hK => ?_)
               ·skip
                refine Kd.R_lit_step (Kd.int .i64) _ 2 ?hg (N := 73) ?hd (xs := ([t391] : List Int)) (inner := [.int .i64 t391]) (ok := fun _ => True) (okp := fun _ => True) ?hr ?hp (fun _ hk => hk) trivial (Below.refl _ _) (Nat.le_refl _) (by simp) ?_; (case hd => rfl); (case hg => rfl); (case hr => first | (go_simp; done) | (go_simp; rfl)); (case hp => exact (Reps.one (show Kd.M (Kd.int .i64) _ _ _ t391 [.int .i64 t391] from rfl) (Reps.none _ _)))
                intro v393 w77 ho78 hb hg_ hnew_
                clear hg_ hnew_
                (first | rw [← Ny392.out] at ho78 | (simp only [Int.reduceToNat] at ho78; rw [← Ny392.out] at ho78))
                have n0_ := Aside0.mk (Kd.R_elder' (ZR HO_369001) (Kd.R_base ho78) hb)
                have n1_ := Aside0.mk (Kd.R_elder' (ZR HO_369002) (Kd.R_base ho78) hb)
                have n2_ := Aside0.mk (Kd.R_lower (Kd.R_new' (Kd.R_new' ho78 (Kd.R_lt (ZR HO_369001))) (Kd.R_lt (ZR HO_369002))) (below_size ZB))
                have n3_ := ZL BK364 hb
                have n4_ := ZL BK365 hb
                have n5_ := ZL BK368 hb
                have n6_ := Aside0.mk (below_step ZB hb)
                clear HO_369001
                clear HO_369002
                clear BK364
                clear BK365
                clear BK368
                clear HB
                have HO_369001 := n0_
                have HO_369002 := n1_
                have HO394 := n2_
                have BK364 := n3_
                have BK365 := n4_
                have BK368 := n5_
                have HB := n6_
                clear n0_ n1_ n2_ n3_ n4_ n5_ n6_
                clear hb ho78
                obtain ⟨Ao80, co80, eo80⟩ := Kd.R_slice HO394.out
                (first | subst eo80 | (injection eo80 with f1_ f2_ f3_; have f4_ := f1_.symm; have f5_ := f3_.symm; clear f1_ f2_ f3_; subst f4_; subst f5_))
                refine hK.out _ _ ⟨(blk_cell BK368.out 0).trans rfl, (blk_cell BK368.out 1).trans rfl, (blk_cell BK368.out 2).trans rfl⟩ (fun hHeld => ?_)
                clear hK K
                refine norm_ (a' := ?_) ?_ ?_
                rotate_left
                ·show Act.put _ (some 73) _ = _
                 simp only [Act.put, List.setIfInBounds_toArray, List.set_cons_zero, List.set_cons_succ, i64_w, i32_w]
                 rfl
                refine two_ (i := 10) (j := 14) (Ni := some 74) (Nj := some 78) #[true, true, true, true, true, true, true, true, true, true, true, true, true, true, false, false, false, false, false, false] #[true, true, true, true, true, true, true, true, true, true, false, true, true, true, true, false, false, false, false, false] rfl rfl rfl rfl (two_of HT_.out (by kernel_rfl)) (by decide) (by decide) (fun K hK => ?_) (fun K hK => ?_)
                ·skip
                 refine Kd.R_append_rows_step (Kd.int .i64) (w0 := w) w.heap.size (by rfl) (.tmp 65) (.tmp 73) 22 2 (.int .i64 0) 8 rfl Try.underlying22 info2 rfl (by decide) (by omega) (.slice Ao74 x369001_1.length co74) x369001_1 y392 _ _ _ (fun k_ => some k_ ≠ (.slice Ao75 x369002_1.length co75 : Value).ownBlock ∧ some k_ ≠ (.slice Ao80 y392.length co80 : Value).ownBlock) (fun _ => False) rfl rfl ?aO ?aR (fun _ _ h => h) (fun _ h => h.elim) ?aF ?aB ?aS ?aL ?_
                 (case aR => repeat (first | exact (Kd.R_reads' HO394.out).2.2 | (with_reducible refine Kd.C_alloc ?_ _) | (with_reducible refine Kd.C_drewN ?_ _) | (with_reducible refine Kd.C_drew ?_)))
                 (case aB => exact ZB)
                 (case aF => exact (fun k_ hk => ⟨Kd.fresh' (Kd.R_lt (ZR HO_369002)) k_ hk, Kd.fresh' (Kd.R_lt (ZR HO394)) k_ hk⟩))
                 (case aO => exact (ZR HO_369001))
                 (case aS => exact (below_size ZB))
                 (case aL => have := LMc69.out; omega)
                 intro v396 w79 ho hb hg hat
                 rw [← Ny395.out] at ho
                 have n0_ := Aside0.mk (Kd.R_after (ok := (fun k_ => some k_ ≠ (.slice Ao80 y392.length co80 : Value).ownBlock)) (by refine ZQ ?_; exact Kd.R_mono HO_369002.out (fun _ hk => (And.intro (hk.2) (hk.1)))) hg hat)
                 have n1_ := Aside0.mk (blk_grown (ZK BK364) hg (Kd.R_ne HO_369001.out BK364.out (by decide)))
                 have n2_ := Aside0.mk (blk_grown (ZK BK365) hg (Kd.R_ne HO_369001.out BK365.out (by decide)))
                 have n3_ := Aside0.mk (blk_grown (ZK BK368) hg (Kd.R_ne HO_369001.out BK368.out (by decide)))
                 have n4_ := Aside0.mk (Kd.R_after (ok := (fun k_ => some k_ ≠ (.slice Ao75 x369002_1.length co75 : Value).ownBlock)) (by refine ZQ ?_; exact Kd.R_mono HO394.out (fun _ hk => (And.intro (hk.2) (hk.1.2)))) hg hat)
                 have n5_ := Aside0.mk (hb)
                 have n6_ := Aside0.mk (ho)
                 clear HO_369002
                 clear BK364
                 clear BK365
                 clear BK368
                 clear HO394
                 clear HB
                 clear HO_369001
                 have HO_369002 := n0_
                 have BK364 := n1_
                 have BK365 := n2_
                 have BK368 := n3_
                 have HO394 := n4_
                 have HB := n5_
                 have HO397 := n6_
                 clear n0_ n1_ n2_ n3_ n4_ n5_ n6_
                 clear ho hb hg hat
                 refine hK.out _ _ ⟨(blk_cell BK368.out 0).trans rfl, (blk_cell BK368.out 1).trans rfl, (blk_cell BK368.out 2).trans rfl⟩ (fun hHeld => ?_)
                 clear hK K
                 refine norm_ (a' := ?_) ?_ ?_
                 rotate_left
                 ·show Act.put _ (some 74) _ = _
                  simp only [Act.put, List.setIfInBounds_toArray, List.set_cons_zero, List.set_cons_succ, i64_w, i32_w]
                  rfl
                 refine Zpt 16 (some 80) (h := ?_)
                 refine one_ (i := 14) (N := some 78) #[true, true, true, true, true, true, true, true, true, true, true, true, true, true, true, false, true, false, false, false] rfl rfl (one_of HT_.out (by kernel_rfl)) (by decide) (fun K hK => ?_)
                 refine Kd.R_lit_step (Kd.int .i64) _ 2 ?hg (N := 78) ?hd (xs := ([t371] : List Int)) (inner := [.int .i64 t371]) (ok := fun _ => True) (okp := fun _ => True) ?hr ?hp (fun _ hk => hk) trivial (Below.refl _ _) (Nat.le_refl _) (by simp) ?_; (case hd => rfl); (case hg => rfl); (case hr => first | (go_simp; done) | (go_simp; rfl)); (case hp => exact (Reps.one (show Kd.M (Kd.int .i64) _ _ _ t371 [.int .i64 t371] from rfl) (Reps.none _ _)))
                 intro v399 w81 ho82 hb hg_ hnew_
                 clear hg_ hnew_
                 (first | rw [← Ny398.out] at ho82 | (simp only [Int.reduceToNat] at ho82; rw [← Ny398.out] at ho82))
                 have n0_ := Aside0.mk (Kd.R_elder' (ZR HO_369002) (Kd.R_base ho82) hb)
                 have n1_ := Aside0.mk (Kd.R_elder' (ZR HO394) (Kd.R_base ho82) hb)
                 have n2_ := Aside0.mk (Kd.R_elder' (ZR HO397) (Kd.R_base ho82) hb)
                 have n3_ := Aside0.mk (Kd.R_lower (Kd.R_new' (Kd.R_new' (Kd.R_new' ho82 (Kd.R_lt (ZR HO_369002))) (Kd.R_lt (ZR HO394))) (Kd.R_lt (ZR HO397))) (below_size ZB))
                 have n4_ := ZL BK364 hb
                 have n5_ := ZL BK365 hb
                 have n6_ := ZL BK368 hb
                 have n7_ := Aside0.mk (below_step ZB hb)
                 clear HO_369002
                 clear HO394
                 clear HO397
                 clear BK364
                 clear BK365
                 clear BK368
                 clear HB
                 have HO_369002 := n0_
                 have HO394 := n1_
                 have HO397 := n2_
                 have HO400 := n3_
                 have BK364 := n4_
                 have BK365 := n5_
                 have BK368 := n6_
                 have HB := n7_
                 clear n0_ n1_ n2_ n3_ n4_ n5_ n6_ n7_
                 clear hb ho82
                 refine hK.out _ _ ⟨(blk_cell BK368.out 0).trans rfl, (blk_cell BK368.out 1).trans rfl, (blk_cell BK368.out 2).trans rfl⟩ (fun hHeld => ?_)
                 clear hK K
                 refine norm_ (a' := ?_) ?_ ?_
                 rotate_left
                 ·show Act.put _ (some 78) _ = _
                  simp only [Act.put, List.setIfInBounds_toArray, List.set_cons_zero, List.set_cons_succ, i64_w, i32_w]
                  rfl
                 exact norm_ (by simp only [putAll, Act.put, List.setIfInBounds_toArray, List.set_cons_zero, List.set_cons_succ]) (hCont (.slice Ao80 y392.length co80, v396, v399) _ ⟨hHeld, (by refine ZQ ?_; exact Kd.R_mono HO394.out (fun _ hk => (And.intro (hk.1.2) ((And.intro (hk.2) (hk.1.1)))))), (by refine ZQ ?_; exact Kd.R_mono HO397.out (fun _ hk => (And.intro (hk.1.2) ((And.intro (hk.2) (hk.1.1)))))), (by refine ZQ ?_; exact Kd.R_mono HO400.out (fun _ hk => (And.intro (hk.1.2) ((And.intro (hk.2) (hk.1.1.2)))))), (by refine ZQ ?_; exact Kd.R_mono HO_369002.out (fun _ hk => (And.intro (hk.1.1) ((And.intro (hk.1.2) (hk.2)))))), (ZK BK364), (ZK BK365), (ZK BK368), ZB⟩)
                ·skip
                 refine Kd.R_lit_step (Kd.int .i64) _ 2 ?hg (N := 78) ?hd (xs := ([t371] : List Int)) (inner := [.int .i64 t371]) (ok := fun _ => True) (okp := fun _ => True) ?hr ?hp (fun _ hk => hk) trivial (Below.refl _ _) (Nat.le_refl _) (by simp) ?_; (case hd => rfl); (case hg => rfl); (case hr => first | (go_simp; done) | (go_simp; rfl)); (case hp => exact (Reps.one (show Kd.M (Kd.int .i64) _ _ _ t371 [.int .i64 t371] from rfl) (Reps.none _ _)))
                 intro v399 w79 ho80 hb hg_ hnew_
                 clear hg_ hnew_
                 (first | rw [← Ny398.out] at ho80 | (simp only [Int.reduceToNat] at ho80; rw [← Ny398.out] at ho80))
                 have n0_ := Aside0.mk (Kd.R_elder' (ZR HO_369001) (Kd.R_base ho80) hb)
                 have n1_ := Aside0.mk (Kd.R_elder' (ZR HO_369002) (Kd.R_base ho80) hb)
                 have n2_ := Aside0.mk (Kd.R_elder' (ZR HO394) (Kd.R_base ho80) hb)
                 have n3_ := Aside0.mk (Kd.R_lower (Kd.R_new' (Kd.R_new' (Kd.R_new' ho80 (Kd.R_lt (ZR HO_369001))) (Kd.R_lt (ZR HO_369002))) (Kd.R_lt (ZR HO394))) (below_size ZB))
                 have n4_ := ZL BK364 hb
                 have n5_ := ZL BK365 hb
                 have n6_ := ZL BK368 hb
                 have n7_ := Aside0.mk (below_step ZB hb)
                 clear HO_369001
                 clear HO_369002
                 clear HO394
                 clear BK364
                 clear BK365
                 clear BK368
                 clear HB
                 have HO_369001 := n0_
                 have HO_369002 := n1_
                 have HO394 := n2_
                 have HO400 := n3_
                 have BK364 := n4_
                 have BK365 := n5_
                 have BK368 := n6_
                 have HB := n7_
                 clear n0_ n1_ n2_ n3_ n4_ n5_ n6_ n7_
                 clear hb ho80
                 obtain ⟨Ao82, co82, eo82⟩ := Kd.R_slice HO394.out
                 (first | subst eo82 | (injection eo82 with f1_ f2_ f3_; have f4_ := f1_.symm; have f5_ := f3_.symm; clear f1_ f2_ f3_; subst f4_; subst f5_))
                 refine hK.out _ _ ⟨(blk_cell BK368.out 0).trans rfl, (blk_cell BK368.out 1).trans rfl, (blk_cell BK368.out 2).trans rfl⟩ (fun hHeld => ?_)
                 clear hK K
                 refine norm_ (a' := ?_) ?_ ?_
                 rotate_left
                 ·show Act.put _ (some 78) _ = _
                  simp only [Act.put, List.setIfInBounds_toArray, List.set_cons_zero, List.set_cons_succ, i64_w, i32_w]
                  rfl
                 refine one_ (i := 10) (N := some 74) #[true, true, true, true, true, true, true, true, true, true, true, true, true, true, true, false, false, false, false, false] rfl rfl (one_of HT_.out (by kernel_rfl)) (by decide) (fun K hK => ?_)
                 refine Kd.R_append_rows_step (Kd.int .i64) (w0 := w) w.heap.size (by rfl) (.tmp 65) (.tmp 73) 22 2 (.int .i64 0) 8 rfl Try.underlying22 info2 rfl (by decide) (by omega) (.slice Ao74 x369001_1.length co74) x369001_1 y392 _ _ _ (fun k_ => some k_ ≠ (.slice Ao75 x369002_1.length co75 : Value).ownBlock ∧ some k_ ≠ (.slice Ao82 y392.length co82 : Value).ownBlock ∧ some k_ ≠ (v399 : Value).ownBlock) (fun _ => False) rfl rfl ?aO ?aR (fun _ _ h => h) (fun _ h => h.elim) ?aF ?aB ?aS ?aL ?_
                 (case aR => repeat (first | exact (Kd.R_reads' HO394.out).2.2 | (with_reducible refine Kd.C_alloc ?_ _) | (with_reducible refine Kd.C_drewN ?_ _) | (with_reducible refine Kd.C_drew ?_)))
                 (case aB => exact ZB)
                 (case aF => exact (fun k_ hk => ⟨Kd.fresh' (Kd.R_lt (ZR HO_369002)) k_ hk, Kd.fresh' (Kd.R_lt (ZR HO394)) k_ hk, Kd.fresh' (Kd.R_lt (ZR HO400)) k_ hk⟩))
                 (case aO => exact (by refine ZQ ?_; exact Kd.R_mono HO_369001.out (fun _ hk => (And.intro (hk.1.1) ((And.intro (hk.1.2) (hk.2)))))))
                 (case aS => exact (below_size ZB))
                 (case aL => have := LMc69.out; omega)
                 intro v396 w81 ho hb hg hat
                 rw [← Ny395.out] at ho
                 have n0_ := Aside0.mk (Kd.R_after (ok := (fun k_ => some k_ ≠ (.slice Ao82 y392.length co82 : Value).ownBlock ∧ some k_ ≠ (v399 : Value).ownBlock)) (by refine ZQ ?_; exact Kd.R_mono HO_369002.out (fun _ hk => (And.intro ((And.intro (hk.1.2) (hk.2))) (hk.1.1)))) hg hat)
                 have n1_ := Aside0.mk (blk_grown (ZK BK364) hg (Kd.R_ne HO_369001.out BK364.out (by decide)))
                 have n2_ := Aside0.mk (blk_grown (ZK BK365) hg (Kd.R_ne HO_369001.out BK365.out (by decide)))
                 have n3_ := Aside0.mk (blk_grown (ZK BK368) hg (Kd.R_ne HO_369001.out BK368.out (by decide)))
                 have n4_ := Aside0.mk (Kd.R_after (ok := (fun k_ => some k_ ≠ (.slice Ao75 x369002_1.length co75 : Value).ownBlock ∧ some k_ ≠ (v399 : Value).ownBlock)) (by refine ZQ ?_; exact Kd.R_mono HO394.out (fun _ hk => (And.intro ((And.intro (hk.1.2) (hk.2))) (hk.1.1.2)))) hg hat)
                 have n5_ := Aside0.mk (Kd.R_after (ok := (fun k_ => some k_ ≠ (.slice Ao75 x369002_1.length co75 : Value).ownBlock ∧ some k_ ≠ (.slice Ao82 y392.length co82 : Value).ownBlock)) (by refine ZQ ?_; exact Kd.R_mono HO400.out (fun _ hk => (And.intro ((And.intro (hk.1.2) (hk.2))) (hk.1.1.2)))) hg hat)
                 have n6_ := Aside0.mk (hb)
                 have n7_ := Aside0.mk (ho)
                 clear HO_369002
                 clear BK364
                 clear BK365
                 clear BK368
                 clear HO394
                 clear HO400
                 clear HB
                 clear HO_369001
                 have HO_369002 := n0_
                 have BK364 := n1_
                 have BK365 := n2_
                 have BK368 := n3_
                 have HO394 := n4_
                 have HO400 := n5_
                 have HB := n6_
                 have HO397 := n7_
                 clear n0_ n1_ n2_ n3_ n4_ n5_ n6_ n7_
                 clear ho hb hg hat
                 refine hK.out _ _ ⟨(blk_cell BK368.out 0).trans rfl, (blk_cell BK368.out 1).trans rfl, (blk_cell BK368.out 2).trans rfl⟩ (fun hHeld => ?_)
                 clear hK K
                 refine norm_ (a' := ?_) ?_ ?_
                 rotate_left
                 ·show Act.put _ (some 74) _ = _
                  simp only [Act.put, List.setIfInBounds_toArray, List.set_cons_zero, List.set_cons_succ, i64_w, i32_w]
                  rfl
                 refine Zpt 16 (some 80) (h := ?_)
                 exact norm_ (by simp only [putAll, Act.put, List.setIfInBounds_toArray, List.set_cons_zero, List.set_cons_succ]) (hCont (.slice Ao82 y392.length co82, v396, v399) _ ⟨hHeld, (by refine ZQ ?_; exact Kd.R_mono HO394.out (fun _ hk => (And.intro (hk.2) ((And.intro (hk.1.2) (hk.1.1)))))), (by refine ZQ ?_; exact Kd.R_mono HO397.out (fun _ hk => (And.intro (hk.2.1) ((And.intro (hk.2.2) (hk.1)))))), (by refine ZQ ?_; exact Kd.R_mono HO400.out (fun _ hk => (And.intro (hk.1.2) ((And.intro (hk.2) (hk.1.1)))))), (by refine ZQ ?_; exact Kd.R_mono HO_369002.out (fun _ hk => (And.intro (hk.1.1) ((And.intro (hk.2) (hk.1.2)))))), (ZK BK364), (ZK BK365), (ZK BK368), ZB⟩)
               ·skip
                refine Kd.R_lit_step (Kd.int .i64) _ 2 ?hg (N := 78) ?hd (xs := ([t371] : List Int)) (inner := [.int .i64 t371]) (ok := fun _ => True) (okp := fun _ => True) ?hr ?hp (fun _ hk => hk) trivial (Below.refl _ _) (Nat.le_refl _) (by simp) ?_; (case hd => rfl); (case hg => rfl); (case hr => first | (go_simp; done) | (go_simp; rfl)); (case hp => exact (Reps.one (show Kd.M (Kd.int .i64) _ _ _ t371 [.int .i64 t371] from rfl) (Reps.none _ _)))
                intro v399 w77 ho78 hb hg_ hnew_
                clear hg_ hnew_
                (first | rw [← Ny398.out] at ho78 | (simp only [Int.reduceToNat] at ho78; rw [← Ny398.out] at ho78))
                have n0_ := Aside0.mk (Kd.R_elder' (ZR HO_369001) (Kd.R_base ho78) hb)
                have n1_ := Aside0.mk (Kd.R_elder' (ZR HO_369002) (Kd.R_base ho78) hb)
                have n2_ := Aside0.mk (Kd.R_lower (Kd.R_new' (Kd.R_new' ho78 (Kd.R_lt (ZR HO_369001))) (Kd.R_lt (ZR HO_369002))) (below_size ZB))
                have n3_ := ZL BK364 hb
                have n4_ := ZL BK365 hb
                have n5_ := ZL BK368 hb
                have n6_ := Aside0.mk (below_step ZB hb)
                clear HO_369001
                clear HO_369002
                clear BK364
                clear BK365
                clear BK368
                clear HB
                have HO_369001 := n0_
                have HO_369002 := n1_
                have HO400 := n2_
                have BK364 := n3_
                have BK365 := n4_
                have BK368 := n5_
                have HB := n6_
                clear n0_ n1_ n2_ n3_ n4_ n5_ n6_
                clear hb ho78
                refine hK.out _ _ ⟨(blk_cell BK368.out 0).trans rfl, (blk_cell BK368.out 1).trans rfl, (blk_cell BK368.out 2).trans rfl⟩ (fun hHeld => ?_)
                clear hK K
                refine norm_ (a' := ?_) ?_ ?_
                rotate_left
                ·show Act.put _ (some 78) _ = _
                 simp only [Act.put, List.setIfInBounds_toArray, List.set_cons_zero, List.set_cons_succ, i64_w, i32_w]
                 rfl
                refine one_ (i := 9) (N := some 73) #[true, true, true, true, true, true, true, true, true, true, false, true, true, true, true, false, false, false, false, false] rfl rfl (one_of HT_.out (by kernel_rfl)) (by decide) (fun K hK => ?_)
                refine Kd.R_lit_step (Kd.int .i64) _ 2 ?hg (N := 73) ?hd (xs := ([t391] : List Int)) (inner := [.int .i64 t391]) (ok := fun _ => True) (okp := fun _ => True) ?hr ?hp (fun _ hk => hk) trivial (Below.refl _ _) (Nat.le_refl _) (by simp) ?_; (case hd => rfl); (case hg => rfl); (case hr => first | (go_simp; done) | (go_simp; rfl)); (case hp => exact (Reps.one (show Kd.M (Kd.int .i64) _ _ _ t391 [.int .i64 t391] from rfl) (Reps.none _ _)))
                intro v393 w79 ho80 hb hg_ hnew_
                clear hg_ hnew_
                (first | rw [← Ny392.out] at ho80 | (simp only [Int.reduceToNat] at ho80; rw [← Ny392.out] at ho80))
                have n0_ := Aside0.mk (Kd.R_elder' (ZR HO_369001) (Kd.R_base ho80) hb)
                have n1_ := Aside0.mk (Kd.R_elder' (ZR HO_369002) (Kd.R_base ho80) hb)
                have n2_ := Aside0.mk (Kd.R_elder' (ZR HO400) (Kd.R_base ho80) hb)
                have n3_ := Aside0.mk (Kd.R_lower (Kd.R_new' (Kd.R_new' (Kd.R_new' ho80 (Kd.R_lt (ZR HO_369001))) (Kd.R_lt (ZR HO_369002))) (Kd.R_lt (ZR HO400))) (below_size ZB))
                have n4_ := ZL BK364 hb
                have n5_ := ZL BK365 hb
                have n6_ := ZL BK368 hb
                have n7_ := Aside0.mk (below_step ZB hb)
                clear HO_369001
                clear HO_369002
                clear HO400
                clear BK364
                clear BK365
                clear BK368
                clear HB
                have HO_369001 := n0_
                have HO_369002 := n1_
                have HO400 := n2_
                have HO394 := n3_
                have BK364 := n4_
                have BK365 := n5_
                have BK368 := n6_
                have HB := n7_
                clear n0_ n1_ n2_ n3_ n4_ n5_ n6_ n7_
                clear hb ho80
                obtain ⟨Ao82, co82, eo82⟩ := Kd.R_slice HO394.out
                (first | subst eo82 | (injection eo82 with f1_ f2_ f3_; have f4_ := f1_.symm; have f5_ := f3_.symm; clear f1_ f2_ f3_; subst f4_; subst f5_))
                refine hK.out _ _ ⟨(blk_cell BK368.out 0).trans rfl, (blk_cell BK368.out 1).trans rfl, (blk_cell BK368.out 2).trans rfl⟩ (fun hHeld => ?_)
                clear hK K
                refine norm_ (a' := ?_) ?_ ?_
                rotate_left
                ·show Act.put _ (some 73) _ = _
                 simp only [Act.put, List.setIfInBounds_toArray, List.set_cons_zero, List.set_cons_succ, i64_w, i32_w]
                 rfl
                refine one_ (i := 10) (N := some 74) #[true, true, true, true, true, true, true, true, true, true, true, true, true, true, true, false, false, false, false, false] rfl rfl (one_of HT_.out (by kernel_rfl)) (by decide) (fun K hK => ?_)
                refine Kd.R_append_rows_step (Kd.int .i64) (w0 := w) w.heap.size (by rfl) (.tmp 65) (.tmp 73) 22 2 (.int .i64 0) 8 rfl Try.underlying22 info2 rfl (by decide) (by omega) (.slice Ao74 x369001_1.length co74) x369001_1 y392 _ _ _ (fun k_ => some k_ ≠ (.slice Ao75 x369002_1.length co75 : Value).ownBlock ∧ some k_ ≠ (v399 : Value).ownBlock ∧ some k_ ≠ (.slice Ao82 y392.length co82 : Value).ownBlock) (fun _ => False) rfl rfl ?aO ?aR (fun _ _ h => h) (fun _ h => h.elim) ?aF ?aB ?aS ?aL ?_
                (case aR => repeat (first | exact (Kd.R_reads' HO394.out).2.2 | (with_reducible refine Kd.C_alloc ?_ _) | (with_reducible refine Kd.C_drewN ?_ _) | (with_reducible refine Kd.C_drew ?_)))
                (case aB => exact ZB)
                (case aF => exact (fun k_ hk => ⟨Kd.fresh' (Kd.R_lt (ZR HO_369002)) k_ hk, Kd.fresh' (Kd.R_lt (ZR HO400)) k_ hk, Kd.fresh' (Kd.R_lt (ZR HO394)) k_ hk⟩))
                (case aO => exact (by refine ZQ ?_; exact Kd.R_mono HO_369001.out (fun _ hk => (And.intro (hk.1.1) ((And.intro (hk.1.2) (hk.2)))))))
                (case aS => exact (below_size ZB))
                (case aL => have := LMc69.out; omega)
                intro v396 w81 ho hb hg hat
                rw [← Ny395.out] at ho
                have n0_ := Aside0.mk (Kd.R_after (ok := (fun k_ => some k_ ≠ (v399 : Value).ownBlock ∧ some k_ ≠ (.slice Ao82 y392.length co82 : Value).ownBlock)) (by refine ZQ ?_; exact Kd.R_mono HO_369002.out (fun _ hk => (And.intro ((And.intro (hk.1.2) (hk.2))) (hk.1.1)))) hg hat)
                have n1_ := Aside0.mk (blk_grown (ZK BK364) hg (Kd.R_ne HO_369001.out BK364.out (by decide)))
                have n2_ := Aside0.mk (blk_grown (ZK BK365) hg (Kd.R_ne HO_369001.out BK365.out (by decide)))
                have n3_ := Aside0.mk (blk_grown (ZK BK368) hg (Kd.R_ne HO_369001.out BK368.out (by decide)))
                have n4_ := Aside0.mk (Kd.R_after (ok := (fun k_ => some k_ ≠ (.slice Ao75 x369002_1.length co75 : Value).ownBlock ∧ some k_ ≠ (.slice Ao82 y392.length co82 : Value).ownBlock)) (by refine ZQ ?_; exact Kd.R_mono HO400.out (fun _ hk => (And.intro ((And.intro (hk.1.2) (hk.2))) (hk.1.1.2)))) hg hat)
                have n5_ := Aside0.mk (Kd.R_after (ok := (fun k_ => some k_ ≠ (.slice Ao75 x369002_1.length co75 : Value).ownBlock ∧ some k_ ≠ (v399 : Value).ownBlock)) (by refine ZQ ?_; exact Kd.R_mono HO394.out (fun _ hk => (And.intro ((And.intro (hk.1.2) (hk.2))) (hk.1.1.2)))) hg hat)
                have n6_ := Aside0.mk (hb)
                have n7_ := Aside0.mk (ho)
                clear HO_369002
                clear BK364
                clear BK365
                clear BK368
                clear HO400
                clear HO394
                clear HB
                clear HO_369001
                have HO_369002 := n0_
                have BK364 := n1_
                have BK365 := n2_
                have BK368 := n3_
                have HO400 := n4_
                have HO394 := n5_
                have HB := n6_
                have HO397 := n7_
                clear n0_ n1_ n2_ n3_ n4_ n5_ n6_ n7_
                clear ho hb hg hat
                refine hK.out _ _ ⟨(blk_cell BK368.out 0).trans rfl, (blk_cell BK368.out 1).trans rfl, (blk_cell BK368.out 2).trans rfl⟩ (fun hHeld => ?_)
                clear hK K
                refine norm_ (a' := ?_) ?_ ?_
                rotate_left
                ·show Act.put _ (some 74) _ = _
                 simp only [Act.put, List.setIfInBounds_toArray, List.set_cons_zero, List.set_cons_succ, i64_w, i32_w]
                 rfl
                refine Zpt 16 (some 80) (h := ?_)
                exact norm_ (by simp only [putAll, Act.put, List.setIfInBounds_toArray, List.set_cons_zero, List.set_cons_succ]) (hCont (.slice Ao82 y392.length co82, v396, v399) _ ⟨hHeld, (by refine ZQ ?_; exact Kd.R_mono HO394.out (fun _ hk => (And.intro (hk.2) ((And.intro (hk.1.2) (hk.1.1)))))), (by refine ZQ ?_; exact Kd.R_mono HO397.out (fun _ hk => (And.intro (hk.2.2) ((And.intro (hk.2.1) (hk.1)))))), (by refine ZQ ?_; exact Kd.R_mono HO400.out (fun _ hk => (And.intro (hk.1.2) ((And.intro (hk.2) (hk.1.1)))))), (by refine ZQ ?_; exact Kd.R_mono HO_369002.out (fun _ hk => (And.intro (hk.1.2) ((And.intro (hk.2) (hk.1.1)))))), (ZK BK364), (ZK BK365), (ZK BK368), ZB⟩)
              ·skip
               refine Kd.R_lit_step (Kd.int .i64) _ 2 ?hg (N := 78) ?hd (xs := ([t371] : List Int)) (inner := [.int .i64 t371]) (ok := fun _ => True) (okp := fun _ => True) ?hr ?hp (fun _ hk => hk) trivial (Below.refl _ _) (Nat.le_refl _) (by simp) ?_; (case hd => rfl); (case hg => rfl); (case hr => first | (go_simp; done) | (go_simp; rfl)); (case hp => exact (Reps.one (show Kd.M (Kd.int .i64) _ _ _ t371 [.int .i64 t371] from rfl) (Reps.none _ _)))
               intro v399 w77 ho78 hb hg_ hnew_
               clear hg_ hnew_
               (first | rw [← Ny398.out] at ho78 | (simp only [Int.reduceToNat] at ho78; rw [← Ny398.out] at ho78))
               have n0_ := Aside0.mk (Kd.R_elder' (ZR HO_369001) (Kd.R_base ho78) hb)
               have n1_ := Aside0.mk (Kd.R_elder' (ZR HO_369002) (Kd.R_base ho78) hb)
               have n2_ := Aside0.mk (Kd.R_lower (Kd.R_new' (Kd.R_new' ho78 (Kd.R_lt (ZR HO_369001))) (Kd.R_lt (ZR HO_369002))) (below_size ZB))
               have n3_ := ZL BK364 hb
               have n4_ := ZL BK365 hb
               have n5_ := ZL BK368 hb
               have n6_ := Aside0.mk (below_step ZB hb)
               clear HO_369001
               clear HO_369002
               clear BK364
               clear BK365
               clear BK368
               clear HB
               have HO_369001 := n0_
               have HO_369002 := n1_
               have HO400 := n2_
               have BK364 := n3_
               have BK365 := n4_
               have BK368 := n5_
               have HB := n6_
               clear n0_ n1_ n2_ n3_ n4_ n5_ n6_
               clear hb ho78
               refine hK.out _ _ ⟨(blk_cell BK368.out 0).trans rfl, (blk_cell BK368.out 1).trans rfl, (blk_cell BK368.out 2).trans rfl⟩ (fun hHeld => ?_)
               clear hK K
               refine norm_ (a' := ?_) ?_ ?_
               rotate_left
               ·show Act.put _ (some 78) _ = _
                simp only [Act.put, List.setIfInBounds_toArray, List.set_cons_zero, List.set_cons_succ, i64_w, i32_w]
                rfl
               refine one_ (i := 8) (N := some 72) #[true, true, true, true, true, true, true, true, true, false, false, true, true, true, true, false, false, false, false, false] rfl rfl (one_of HT_.out (by kernel_rfl)) (by decide) (fun K hK => ?_)
               refine goes_ Try.func97 (by kernel_rfl) rfl #[.int .i64 t366, .int .i64 (wrap64 ((wrap64 (t370 + t390)) + a1))] (by rfl) rfl rfl ZA ?_
               with_reducible refine (impl_field_mod.calls t366 (wrap64 ((wrap64 (t370 + t390)) + a1)) t391 _ A68.out).mono ?_
               rintro e w' ⟨rfl, ⟨nd, rfl⟩⟩
               refine ⟨_, rfl, ?_⟩
               refine hK.out _ _ ⟨(blk_cell BK368.out 0).trans rfl, (blk_cell BK368.out 1).trans rfl, (blk_cell BK368.out 2).trans rfl⟩ (fun hHeld => ?_)
               clear hK K
               refine norm_ (a' := ?_) ?_ ?_
               rotate_left
               ·show Act.put _ (some 72) _ = _
                simp only [Act.put, List.setIfInBounds_toArray, List.set_cons_zero, List.set_cons_succ, i64_w, i32_w]
                rfl
               refine one_ (i := 9) (N := some 73) #[true, true, true, true, true, true, true, true, true, true, false, true, true, true, true, false, false, false, false, false] rfl rfl (one_of HT_.out (by kernel_rfl)) (by decide) (fun K hK => ?_)
               refine Kd.R_lit_step (Kd.int .i64) _ 2 ?hg (N := 73) ?hd (xs := ([t391] : List Int)) (inner := [.int .i64 t391]) (ok := fun _ => True) (okp := fun _ => True) ?hr ?hp (fun _ hk => hk) trivial (Below.refl _ _) (Nat.le_refl _) (by simp) ?_; (case hd => rfl); (case hg => rfl); (case hr => first | (go_simp; done) | (go_simp; rfl)); (case hp => exact (Reps.one (show Kd.M (Kd.int .i64) _ _ _ t391 [.int .i64 t391] from rfl) (Reps.none _ _)))
               intro v393 w79 ho80 hb hg_ hnew_
               clear hg_ hnew_
               (first | rw [← Ny392.out] at ho80 | (simp only [Int.reduceToNat] at ho80; rw [← Ny392.out] at ho80))
               have n0_ := Aside0.mk (Kd.R_elder' (ZR HO_369001) (Kd.R_base ho80) hb)
               have n1_ := Aside0.mk (Kd.R_elder' (ZR HO_369002) (Kd.R_base ho80) hb)
               have n2_ := Aside0.mk (Kd.R_elder' (ZR HO400) (Kd.R_base ho80) hb)
               have n3_ := Aside0.mk (Kd.R_lower (Kd.R_new' (Kd.R_new' (Kd.R_new' ho80 (Kd.R_lt (ZR HO_369001))) (Kd.R_lt (ZR HO_369002))) (Kd.R_lt (ZR HO400))) (below_size ZB))
               have n4_ := ZL BK364 hb
               have n5_ := ZL BK365 hb
               have n6_ := ZL BK368 hb
               have n7_ := Aside0.mk (below_step ZB hb)
               clear HO_369001
               clear HO_369002
               clear HO400
               clear BK364
               clear BK365
               clear BK368
               clear HB
               have HO_369001 := n0_
               have HO_369002 := n1_
               have HO400 := n2_
               have HO394 := n3_
               have BK364 := n4_
               have BK365 := n5_
               have BK368 := n6_
               have HB := n7_
               clear n0_ n1_ n2_ n3_ n4_ n5_ n6_ n7_
               clear hb ho80
               obtain ⟨Ao82, co82, eo82⟩ := Kd.R_slice HO394.out
               (first | subst eo82 | (injection eo82 with f1_ f2_ f3_; have f4_ := f1_.symm; have f5_ := f3_.symm; clear f1_ f2_ f3_; subst f4_; subst f5_))
               refine hK.out _ _ ⟨(blk_cell BK368.out 0).trans rfl, (blk_cell BK368.out 1).trans rfl, (blk_cell BK368.out 2).trans rfl⟩ (fun hHeld => ?_)
               clear hK K
               refine norm_ (a' := ?_) ?_ ?_
               rotate_left
               ·show Act.put _ (some 73) _ = _
                simp only [Act.put, List.setIfInBounds_toArray, List.set_cons_zero, List.set_cons_succ, i64_w, i32_w]
                rfl
               refine one_ (i := 10) (N := some 74) #[true, true, true, true, true, true, true, true, true, true, true, true, true, true, true, false, false, false, false, false] rfl rfl (one_of HT_.out (by kernel_rfl)) (by decide) (fun K hK => ?_)
               refine Kd.R_append_rows_step (Kd.int .i64) (w0 := w) w.heap.size (by rfl) (.tmp 65) (.tmp 73) 22 2 (.int .i64 0) 8 rfl Try.underlying22 info2 rfl (by decide) (by omega) (.slice Ao74 x369001_1.length co74) x369001_1 y392 _ _ _ (fun k_ => some k_ ≠ (.slice Ao75 x369002_1.length co75 : Value).ownBlock ∧ some k_ ≠ (v399 : Value).ownBlock ∧ some k_ ≠ (.slice Ao82 y392.length co82 : Value).ownBlock) (fun _ => False) rfl rfl ?aO ?aR (fun _ _ h => h) (fun _ h => h.elim) ?aF ?aB ?aS ?aL ?_
               (case aR => repeat (first | exact (Kd.R_reads' HO394.out).2.2 | (with_reducible refine Kd.C_alloc ?_ _) | (with_reducible refine Kd.C_drewN ?_ _) | (with_reducible refine Kd.C_drew ?_)))
               (case aB => exact ZB)
               (case aF => exact (fun k_ hk => ⟨Kd.fresh' (Kd.R_lt (ZR HO_369002)) k_ hk, Kd.fresh' (Kd.R_lt (ZR HO400)) k_ hk, Kd.fresh' (Kd.R_lt (ZR HO394)) k_ hk⟩))
               (case aO => exact (by refine ZQ ?_; exact Kd.R_mono HO_369001.out (fun _ hk => (And.intro (hk.1.1) ((And.intro (hk.1.2) (hk.2)))))))
               (case aS => exact (below_size ZB))
               (case aL => have := LMc69.out; omega)
               intro v396 w81 ho hb hg hat
               rw [← Ny395.out] at ho
               have n0_ := Aside0.mk (Kd.R_after (ok := (fun k_ => some k_ ≠ (v399 : Value).ownBlock ∧ some k_ ≠ (.slice Ao82 y392.length co82 : Value).ownBlock)) (by refine ZQ ?_; exact Kd.R_mono HO_369002.out (fun _ hk => (And.intro ((And.intro (hk.1.2) (hk.2))) (hk.1.1)))) hg hat)
               have n1_ := Aside0.mk (blk_grown (ZK BK364) hg (Kd.R_ne HO_369001.out BK364.out (by decide)))
               have n2_ := Aside0.mk (blk_grown (ZK BK365) hg (Kd.R_ne HO_369001.out BK365.out (by decide)))
               have n3_ := Aside0.mk (blk_grown (ZK BK368) hg (Kd.R_ne HO_369001.out BK368.out (by decide)))
               have n4_ := Aside0.mk (Kd.R_after (ok := (fun k_ => some k_ ≠ (.slice Ao75 x369002_1.length co75 : Value).ownBlock ∧ some k_ ≠ (.slice Ao82 y392.length co82 : Value).ownBlock)) (by refine ZQ ?_; exact Kd.R_mono HO400.out (fun _ hk => (And.intro ((And.intro (hk.1.2) (hk.2))) (hk.1.1.2)))) hg hat)
               have n5_ := Aside0.mk (Kd.R_after (ok := (fun k_ => some k_ ≠ (.slice Ao75 x369002_1.length co75 : Value).ownBlock ∧ some k_ ≠ (v399 : Value).ownBlock)) (by refine ZQ ?_; exact Kd.R_mono HO394.out (fun _ hk => (And.intro ((And.intro (hk.1.2) (hk.2))) (hk.1.1.2)))) hg hat)
               have n6_ := Aside0.mk (hb)
               have n7_ := Aside0.mk (ho)
               clear HO_369002
               clear BK364
               clear BK365
               clear BK368
               clear HO400
               clear HO394
               clear HB
               clear HO_369001
               have HO_369002 := n0_
               have BK364 := n1_
               have BK365 := n2_
               have BK368 := n3_
               have HO400 := n4_
               have HO394 := n5_
               have HB := n6_
               have HO397 := n7_
               clear n0_ n1_ n2_ n3_ n4_ n5_ n6_ n7_
               clear ho hb hg hat
               refine hK.out _ _ ⟨(blk_cell BK368.out 0).trans rfl, (blk_cell BK368.out 1).trans rfl, (blk_cell BK368.out 2).trans rfl⟩ (fun hHeld => ?_)
               clear hK K
               refine norm_ (a' := ?_) ?_ ?_
               rotate_left
               ·show Act.put _ (some 74) _ = _
                simp only [Act.put, List.setIfInBounds_toArray, List.set_cons_zero, List.set_cons_succ, i64_w, i32_w]
                rfl
               refine Zpt 16 (some 80) (h := ?_)
               exact norm_ (by simp only [putAll, Act.put, List.setIfInBounds_toArray, List.set_cons_zero, List.set_cons_succ]) (hCont (.slice Ao82 y392.length co82, v396, v399) _ ⟨hHeld, (by refine ZQ ?_; exact Kd.R_mono HO394.out (fun _ hk => (And.intro (hk.2) ((And.intro (hk.1.2) (hk.1.1)))))), (by refine ZQ ?_; exact Kd.R_mono HO397.out (fun _ hk => (And.intro (hk.2.2) ((And.intro (hk.2.1) (hk.1)))))), (by refine ZQ ?_; exact Kd.R_mono HO400.out (fun _ hk => (And.intro (hk.1.2) ((And.intro (hk.2) (hk.1.1)))))), (by refine ZQ ?_; exact Kd.R_mono HO_369002.out (fun _ hk => (And.intro (hk.1.2) ((And.intro (hk.2) (hk.1.1)))))), (ZK BK364), (ZK BK365), (ZK BK368), ZB⟩)
             rintro ⟨v393, v396, v399⟩ w83 ⟨hS_, h0_, h1_, h2_, h3_, h4_, h5_, h6_, h7_⟩
             have n0_ : Aside0 (Kd.R (Kd.int .i64) 2 w83 w.heap.size (fun k_ => some k_ ≠ (v396 : Value).ownBlock ∧ some k_ ≠ (v399 : Value).ownBlock ∧ some k_ ≠ (.slice Ao75 x369002_1.length co75 : Value).ownBlock) v393 y392) := ⟨h0_⟩
             have n1_ : Aside0 (Kd.R (Kd.int .i64) 2 w83 w.heap.size (fun k_ => some k_ ≠ (v393 : Value).ownBlock ∧ some k_ ≠ (v399 : Value).ownBlock ∧ some k_ ≠ (.slice Ao75 x369002_1.length co75 : Value).ownBlock) v396 y395) := ⟨h1_⟩
             have n2_ : Aside0 (Kd.R (Kd.int .i64) 2 w83 w.heap.size (fun k_ => some k_ ≠ (v393 : Value).ownBlock ∧ some k_ ≠ (v396 : Value).ownBlock ∧ some k_ ≠ (.slice Ao75 x369002_1.length co75 : Value).ownBlock) v399 y398) := ⟨h2_⟩
             have n3_ : Aside0 (Kd.R (Kd.int .i64) 2 w83 w.heap.size (fun k_ => some k_ ≠ (v393 : Value).ownBlock ∧ some k_ ≠ (v396 : Value).ownBlock ∧ some k_ ≠ (v399 : Value).ownBlock) (.slice Ao75 x369002_1.length co75) x369002_1) := ⟨h3_⟩
             have n4_ : Aside0 (w83.heap[gb364]? = some (.cells #[.int .i64 a0_0, .slice (some ad369) l0_1.length c0_1, .slice (some ad389) l0_2.length c0_2] 29 (0, 0))) := ⟨h4_⟩
             have n5_ : Aside0 (w83.heap[gb365]? = some (.cells #[.int .i64 x366000_1, .slice none 0 0, .slice none 0 0] 29 (0, 0))) := ⟨h5_⟩
             have n6_ : Aside0 (w83.heap[gb368]? = some (.cells #[.int .i64 a0_0, .slice Ao74 x369001_1.length co74, .slice Ao75 x369002_1.length co75] 29 (0, 0))) := ⟨h6_⟩
             have n7_ : Aside0 (Below w.heap.size w w83) := ⟨h7_⟩
             clear HO_369001
             clear HO_369002
             clear BK364
             clear BK365
             clear BK368
             clear HB
             clear h0_ h1_ h2_ h3_ h4_ h5_ h6_ h7_
             have HO394 := n0_
             have HO397 := n1_
             have HO400 := n2_
             have HO_369002 := n3_
             have BK364 := n4_
             have BK365 := n5_
             have BK368 := n6_
             have HB := n7_
             clear n0_ n1_ n2_ n3_ n4_ n5_ n6_ n7_
             have hHeld : w83.cell? ⟨gb368, 0, none⟩ = some (.int .i64 a0_0) ∧ w83.cell? ⟨gb368, 1, none⟩ = some (.slice Ao74 x369001_1.length co74) ∧ w83.cell? ⟨gb368, 2, none⟩ = some (.slice Ao75 x369002_1.length co75) := hS_
             obtain ⟨Ao85, co85, eo85⟩ := Kd.R_slice HO400.out
             (first | subst eo85 | (injection eo85 with f1_ f2_ f3_; have f4_ := f1_.symm; have f5_ := f3_.symm; clear f1_ f2_ f3_; subst f4_; subst f5_))
             refine norm_ (a' := ?_) ?_ ?_
             rotate_left
             ·simp only [putAll, Act.put, List.setIfInBounds_toArray, List.set_cons_zero, List.set_cons_succ]
              rfl
             refine one_ (i := 15) (N := some 79) #[true, true, true, true, true, true, true, true, true, true, true, true, true, true, true, true, true, false, false, false] rfl rfl (one_of HT_.out (by kernel_rfl)) (by decide) (fun K hK => ?_)
             refine Kd.R_append_rows_step (Kd.int .i64) (w0 := w) w.heap.size (by rfl) (.tmp 76) (.tmp 78) 22 2 (.int .i64 0) 8 rfl Try.underlying22 info2 rfl (by decide) (by omega) (.slice Ao75 x369002_1.length co75) x369002_1 y398 _ _ _ (fun k_ => some k_ ≠ (v393 : Value).ownBlock ∧ some k_ ≠ (v396 : Value).ownBlock ∧ some k_ ≠ (.slice Ao85 y398.length co85 : Value).ownBlock) (fun _ => False) rfl rfl ?aO ?aR (fun _ _ h => h) (fun _ h => h.elim) ?aF ?aB ?aS ?aL ?_
             (case aR => repeat (first | exact (Kd.R_reads' HO400.out).2.2 | (with_reducible refine Kd.C_alloc ?_ _) | (with_reducible refine Kd.C_drewN ?_ _) | (with_reducible refine Kd.C_drew ?_)))
             (case aB => exact ZB)
             (case aF => exact (fun k_ hk => ⟨Kd.fresh' (Kd.R_lt (ZR HO394)) k_ hk, Kd.fresh' (Kd.R_lt (ZR HO397)) k_ hk, Kd.fresh' (Kd.R_lt (ZR HO400)) k_ hk⟩))
             (case aO => exact (ZR HO_369002))
             (case aS => exact (below_size ZB))
             (case aL => have := LMc70.out; omega)
             intro v402 w84 ho hb hg hat
             rw [← Ny401.out] at ho
             have n0_ := Aside0.mk (blk_grown (ZK BK364) hg (Kd.R_ne HO_369002.out BK364.out (by decide)))
             have n1_ := Aside0.mk (blk_grown (ZK BK365) hg (Kd.R_ne HO_369002.out BK365.out (by decide)))
             have n2_ := Aside0.mk (blk_grown (ZK BK368) hg (Kd.R_ne HO_369002.out BK368.out (by decide)))
             have n3_ := Aside0.mk (Kd.R_after (ok := (fun k_ => some k_ ≠ (v396 : Value).ownBlock ∧ some k_ ≠ (.slice Ao85 y398.length co85 : Value).ownBlock)) (by refine ZQ ?_; exact Kd.R_mono HO394.out (fun _ hk => (And.intro ((And.intro (hk.1) (hk.2.1))) (hk.2.2)))) hg hat)
             have n4_ := Aside0.mk (Kd.R_after (ok := (fun k_ => some k_ ≠ (v393 : Value).ownBlock ∧ some k_ ≠ (.slice Ao85 y398.length co85 : Value).ownBlock)) (by refine ZQ ?_; exact Kd.R_mono HO397.out (fun _ hk => (And.intro ((And.intro (hk.1) (hk.2.1))) (hk.2.2)))) hg hat)
             have n5_ := Aside0.mk (Kd.R_after (ok := (fun k_ => some k_ ≠ (v393 : Value).ownBlock ∧ some k_ ≠ (v396 : Value).ownBlock)) (by refine ZQ ?_; exact Kd.R_mono HO400.out (fun _ hk => (And.intro ((And.intro (hk.1) (hk.2.1))) (hk.2.2)))) hg hat)
             have n6_ := Aside0.mk (hb)
             have n7_ := Aside0.mk (ho)
             clear BK364
             clear BK365
             clear BK368
             clear HO394
             clear HO397
             clear HO400
             clear HB
             clear HO_369002
             have BK364 := n0_
             have BK365 := n1_
             have BK368 := n2_
             have HO394 := n3_
             have HO397 := n4_
             have HO400 := n5_
             have HB := n6_
             have HO403 := n7_
             clear n0_ n1_ n2_ n3_ n4_ n5_ n6_ n7_
             clear ho hb hg hat
             obtain ⟨Ao86, co86, eo86⟩ := Kd.R_slice HO397.out
             (first | subst eo86 | (injection eo86 with f1_ f2_ f3_; have f4_ := f1_.symm; have f5_ := f3_.symm; clear f1_ f2_ f3_; subst f4_; subst f5_))
             obtain ⟨Ao88, co88, eo88⟩ := Kd.R_slice HO403.out
             (first | subst eo88 | (injection eo88 with f1_ f2_ f3_; have f4_ := f1_.symm; have f5_ := f3_.symm; clear f1_ f2_ f3_; subst f4_; subst f5_))
             refine hK.out _ _ ⟨(blk_cell BK368.out 0).trans rfl, (blk_cell BK368.out 1).trans rfl, (blk_cell BK368.out 2).trans rfl⟩ (fun hHeld => ?_)
             clear hK K
             refine norm_ (a' := ?_) ?_ ?_
             rotate_left
             ·show Act.put _ (some 79) _ = _
              simp only [Act.put, List.setIfInBounds_toArray, List.set_cons_zero, List.set_cons_succ, i64_w, i32_w]
              rfl
             refine last_ (i := 17) (N := none) #[true, true, true, true, true, true, true, true, true, true, true, true, true, true, true, true, true, true, false, false] rfl rfl (one_of HT_.out (by kernel_rfl)) (by decide) (fun K hK => ?_)
             have hs87 : w84.cell? ⟨gb368, 1, none⟩ = some (.slice Ao74 x369001_1.length co74) := (blk_cell BK368.out 1).trans rfl
             have hfs87 := blk_frozen BK368.out 1
             have hns87_0 := NB364_368.out
             have hns87_1 := NB365_368.out
             have hms87_0 := NB368_364.out
             have hms87_1 := NB368_365.out
             refine skip_ (w1 := ?_) (by rfl) rfl ?_ ?_
             rotate_left
             ·go_simp
              rfl
             refine hK.out _ _ ?_
             clear hK K
             refine Zpt 18 (some 81) (h := ?_)
             refine last_ (i := 19) (N := none) #[true, true, true, true, true, true, true, true, true, true, true, true, true, true, true, true, true, true, true, true] rfl rfl (one_of HT_.out (by kernel_rfl)) (by decide) (fun K hK => ?_)
             have hs89 : w84.cell? ⟨gb368, 2, none⟩ = some (.slice Ao75 x369002_1.length co75) := (blk_cell BK368.out 2).trans rfl
             have hfs89 := blk_frozen BK368.out 2
             have hns89_0 := NB364_368.out
             have hns89_1 := NB365_368.out
             have hms89_0 := NB368_364.out
             have hms89_1 := NB368_365.out
             refine skip_ (w1 := ?_) (by rfl) rfl ?_ ?_
             rotate_left
             ·go_simp
              rfl
             refine hK.out _ _ ?_
             clear hK K
             refine done_ (done_of HT_.out (by kernel_rfl)) ?_
             try go_wp2
             go_roundg k1
             case measure => have := HK1.out; omega
             case rel => exact ⟨(t390), (ji64), (x366000_1), (y395), (y401), (.slice Ao86 y395.length co86), (.slice Ao88 y401.length co88), (by first | rfl | (simp; done) | (simp [*]; done)), (by first | rfl | (simp; done) | (simp only [← hji64] <;> (first | rfl | simp)) | (simp [*]; done)), H', ⟨by have := HK1.out; omega⟩, ⟨by refine ZQ ?_; exact Kd.R_mono (Kd.R_far (p := ⟨gb368, 2, none⟩) (Kd.R_far (p := ⟨gb368, 1, none⟩) (Kd.R_types HO397.out BK368.out (by decide)) (fun _ hk => hk.2) (.slice Ao86 y395.length co86)) (fun _ hk => hk.2) (.slice Ao88 y401.length co88)) (fun _ hk => hk.1.2)⟩, ⟨by refine ZQ ?_; exact Kd.R_mono (Kd.R_far (p := ⟨gb368, 2, none⟩) (Kd.R_far (p := ⟨gb368, 1, none⟩) (Kd.R_types HO403.out BK368.out (by decide)) (fun _ hk => hk.2) (.slice Ao86 y395.length co86)) (fun _ hk => hk.2) (.slice Ao88 y401.length co88)) (fun _ hk => hk.1.2.1)⟩, ⟨by refine ZS ?_; refine blk_far ?_ NB364_368.out _; refine ZS ?_; refine blk_far ?_ NB364_368.out _; refine ZS ?_; exact BK364.out⟩, ⟨by refine ZS ?_; refine blk_far ?_ NB365_368.out _; refine ZS ?_; refine blk_far ?_ NB365_368.out _; refine ZS ?_; exact BK365.out⟩, ⟨by refine ZS ?_; refine blk_put (cs := #[.int .i64 a0_0, .slice Ao86 y395.length co86, .slice Ao75 x369002_1.length co75]) ?_ 2 _ rfl; refine ZS ?_; refine blk_put (cs := #[.int .i64 a0_0, .slice Ao74 x369001_1.length co74, .slice Ao75 x369002_1.length co75]) ?_ 1 _ rfl; refine ZS ?_; exact BK368.out⟩, ⟨ZB⟩⟩
            ·rw [if_neg c70] at H
             exact absurd H (by simp)
           ·rw [if_neg c69] at H
            exact absurd H (by simp)
          ·rw [if_neg c66] at H
           exact absurd H (by simp)
         ·rw [if_neg c65] at H
          exact absurd H (by simp)
      ·rw [if_neg c26] at H
       exact absurd H (by simp)
     ·rw [if_neg c25] at H
      exact absurd H (by simp)
    ·rw [if_neg c24] at H
     have c24b0 : decide (x25_1 < (wrap64 (t367 - 1))) = false := decide_eq_false c24
     clear c24
     simp only [Option.some.injEq, Prod.mk.injEq] at H
     obtain ⟨rfl, rfl, rfl, rfl⟩ := H
     have hnb90 := NB368_364.out
     have hnc90 := NB364_368.out
     have hnb91 := NB368_365.out
     have hnc91 := NB365_368.out
     obtain ⟨hcz92_0, hcz92_1, hcz92_2, hfz92_0, hfz92_1, hfz92_2⟩ := ZD3 BK368
     have hnb93 := NB365_364.out
     have hnc93 := NB364_365.out
     obtain ⟨hcz94_0, hcz94_1, hcz94_2, hfz94_0, hfz94_1, hfz94_2⟩ := ZD3 BK365
     obtain ⟨Ao95, co95, eo95⟩ := Kd.R_slice HO_369001.out
     subst eo95
     obtain ⟨Ao96, co96, eo96⟩ := Kd.R_slice HO_369002.out
     subst eo96
     go_wp2
     refine bodyPost_ret (results_ct rfl _ _ gb365 29 #[.int .i64 a0_0, .slice Ao95 x369001_1.length co95, .slice Ao96 x369002_1.length co96] (0, 0) _ rfl (by refine ZS ?_; refine blk_put (cs := #[.int .i64 a0_0, .slice Ao95 x369001_1.length co95, .slice none 0 0]) ?_ 2 _ rfl; refine ZS ?_; refine blk_put (cs := #[.int .i64 a0_0, .slice none 0 0, .slice none 0 0]) ?_ 1 _ rfl; refine ZS ?_; refine blk_put (cs := #[.int .i64 x366000_1, .slice none 0 0, .slice none 0 0]) ?_ 0 _ rfl; refine ZS ?_; exact BK365.out) Try.underlying29 rfl (by kernel_rfl)) rfl ?_
     exact ⟨_, _, by first | rfl | (simp [errW_none, errW_some] <;> rfl) | (simp [*, errW_none, errW_some] <;> rfl), by refine ZQ ?_; exact Kd.R_mono (Kd.R_far (p := ⟨gb365, 2, none⟩) (Kd.R_far (p := ⟨gb365, 1, none⟩) (Kd.R_far (p := ⟨gb365, 0, none⟩) (Kd.R_types HO_369001.out BK365.out (by decide)) (fun _ hk => hk.2) (.int .i64 a0_0)) (fun _ hk => hk.2) (.slice Ao95 x369001_1.length co95)) (fun _ hk => hk.2) (.slice Ao96 x369002_1.length co96)) (fun _ hk => hk.1), by refine ZQ ?_; exact Kd.R_mono (Kd.R_far (p := ⟨gb365, 2, none⟩) (Kd.R_far (p := ⟨gb365, 1, none⟩) (Kd.R_far (p := ⟨gb365, 0, none⟩) (Kd.R_types HO_369002.out BK365.out (by decide)) (fun _ hk => hk.2) (.int .i64 a0_0)) (fun _ hk => hk.2) (.slice Ao95 x369001_1.length co95)) (fun _ hk => hk.2) (.slice Ao96 x369002_1.length co96)) (fun _ hk => hk.1), ZB⟩

end Go.Proofs.Ytaclapojgdekpaa.X
