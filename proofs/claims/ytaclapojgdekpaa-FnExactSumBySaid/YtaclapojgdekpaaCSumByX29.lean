/- Contracts of functions that the law reaches, printed by a program of this session; Lean checks them. -/
import Derived.Test.YtaclapojgdekpaaCSumByX0
import Derived.Test.YtaclapojgdekpaaCSumByX19
import Derived.Test.YtaclapojgdekpaaCSumByX28
import Derived.Test.YtaclapojgdekpaaCSumByX5
import Derived.Test.YtaclapojgdekpaaCSumByX7
import Derived.Test.YtaclapojgdekpaaCSumByXZ
namespace Go.Proofs.Ytaclapojgdekpaa.X
open Go.RowKit Go.Proofs.YtaclapojgdekpaaW.PrintWords Go.Proofs.YtaclapojgdekpaaW.PrintLast Go.Proofs.YtaclapojgdekpaaW.PrintMore
attribute [local go_sem] max2_int min2_int max_two min_two max_three min_three max_four min_four   -- for this text's walks alone
set_option linter.unusedVariables false
set_option linter.unusedSimpArgs false

/-! ### impl_SumBy: function 39 -/
def impl_SumBy.f (k : Nat) (a0_0 : Int) (l0_1 : List Int) (l0_2 : List Int) (l1 : List Int) : Option (List Int × Int) := (impl_Jacobi_size.f a0_0 l0_1 l0_2).bind fun t940 => ((impl_Jacobi_isList.f k a0_0 l0_1 l0_2 l1 (wrap64 (t940 + 1))).bind fun t941 => ((impl_jacobiCode.f k a0_0 l0_1 l0_2 t941).bind fun t942 => (if t942 = 0 then ((impl_Jacobi_field.f a0_0 l0_1 l0_2).bind fun t943 => ((impl_Jacobi_polys.f k a0_0 l0_1 l0_2).bind fun t944 => ((impl_field_sum.f k t943 l1 t944).bind fun t947 => (some (t947, 0))))) else (some (([] : List Int), t942)))))
theorem impl_SumBy.mono : ∀ a0 a1 a2 a3 k, LeO (impl_SumBy.f k a0 a1 a2 a3) (impl_SumBy.f (k + 1) a0 a1 a2 a3) := by
 intro a0 a1 a2 a3 k
 unfold impl_SumBy.f
 repeat' first
   | (with_reducible exact impl_Jacobi_isList.mono _ _ _ _ _ _)
   | (with_reducible exact impl_Jacobi_polys.mono _ _ _ _)
   | (with_reducible exact impl_field_sum.mono _ _ _ _)
   | (with_reducible exact impl_jacobiCode.mono _ _ _ _ _)
   | (with_reducible exact LeO.refl _)
   | (with_reducible exact LeO.none _)
   | (with_reducible refine LeO.ite ?_ ?_)
   | (with_reducible refine LeO.bind ?_ (fun _ => ?_))
   | exact impl_Jacobi_isList.mono _ _ _ _ _ _
   | exact impl_Jacobi_polys.mono _ _ _ _
   | exact impl_field_sum.mono _ _ _ _
   | exact impl_jacobiCode.mono _ _ _ _ _
   | exact LeO.none _
   | refine LeO.ite ?_ ?_
   | refine LeO.bind ?_ (fun _ => ?_)
def impl_SumBy.T1 : Bool × List (List Nat × List Nat) := (true, [([], []), ([], []), ([], []), ([], []), ([3], [3]), ([4], [4]), ([1, 2, 5, 4], [1, 2, 5]), ([0, 6, 6], [0, 6]), ([7, 7, 0, 1, 2, 3, 4, 5, 6, 7], [7])])
def impl_SumBy.B1 : List Nat := [0, 0, 0, 0, 8, 24, 62, 127, 255]
theorem impl_SumBy.tab1 : rtab .any (opsOf Try.f39 1) = impl_SumBy.T1 := by kernel_rfl
theorem impl_SumBy.bits1 : waitsOk impl_SumBy.T1.2 impl_SumBy.B1 = true := by kernel_rfl
def impl_SumBy.T4 : Bool × List (List Nat × List Nat) := (true, [([], []), ([0], [0]), ([], []), ([], []), ([3, 1], [3]), ([1, 2, 4, 4], [1, 2, 4]), ([5, 5, 0, 1, 2, 3, 4, 5], [5]), ([6, 0, 1, 2, 3, 4, 5, 6], [])])
def impl_SumBy.B4 : List Nat := [0, 1, 0, 0, 11, 31, 63, 127]
theorem impl_SumBy.tab4 : rtab .any (opsOf Try.f39 4) = impl_SumBy.T4 := by kernel_rfl
theorem impl_SumBy.bits4 : waitsOk impl_SumBy.T4.2 impl_SumBy.B4 = true := by kernel_rfl
set_option maxHeartbeats 8000000 in
set_option maxRecDepth 100000 in
theorem impl_SumBy.calls (k : Nat) (a0_0 : Int) (A0_1 : Option Addr) (c0_1 : Nat) (l0_1 : List Int) (A0_2 : Option Addr) (c0_2 : Nat) (l0_2 : List Int) (A1 : Option Addr) (c1 : Nat) (l1 : List Int) (r1 : List Int) (r2 : Int) (w : World) (hr0_1 : Kd.C (Kd.int .i64) w A0_1 l0_1.length l0_1) (hc0_1 : l0_1.length ≤ c0_1) (hr0_2 : Kd.C (Kd.int .i64) w A0_2 l0_2.length l0_2) (hc0_2 : l0_2.length ≤ c0_2) (hr1 : Kd.C (Kd.int .i64) w A1 l1.length l1) (hc1 : l1.length ≤ c1) (h : impl_SumBy.f k a0_0 l0_1 l0_2 l1 = some (r1, r2)) :
  Calls Try.prog 39 #[.agg #[.int .i64 a0_0, .slice A0_1 l0_1.length c0_1, .slice A0_2 l0_2.length c0_2], .slice A1 l1.length c1] w fun e w' => ∃ v0_ : Value, e = .returned (.tuple #[v0_, .int .i64 r2]) ∧ Kd.R (Kd.int .i64) 2 w' w.heap.size (fun _ => True) v0_ r1 ∧ Below w.heap.size w w' := by
 have hu29 := Try.underlying29
 have HR0_1 := Aside0.mk hr0_1
 have HC0_1 := Aside0.mk hc0_1
 clear hr0_1 hc0_1
 have HR0_2 := Aside0.mk hr0_2
 have HC0_2 := Aside0.mk hc0_2
 clear hr0_2 hc0_2
 have HR1 := Aside0.mk hr1
 have HC1 := Aside0.mk hc1
 clear hr1 hc1
 have HB := Aside0.mk (Below.refl w.heap.size w)
 have H : ((impl_Jacobi_size.f a0_0 l0_1 l0_2).bind fun t940 => ((impl_Jacobi_isList.f k a0_0 l0_1 l0_2 l1 (wrap64 (t940 + 1))).bind fun t941 => ((impl_jacobiCode.f k a0_0 l0_1 l0_2 t941).bind fun t942 => (if t942 = 0 then ((impl_Jacobi_field.f a0_0 l0_1 l0_2).bind fun t943 => ((impl_Jacobi_polys.f k a0_0 l0_1 l0_2).bind fun t944 => ((impl_field_sum.f k t943 l1 t944).bind fun t947 => (some (t947, 0))))) else (some (([] : List Int), t942)))))) = some (r1, r2) := h
 clear h
 replace H := Option.bind_eq_some_iff.mp H
 obtain ⟨t940, A30, H⟩ := H
 replace H : ((impl_Jacobi_isList.f k a0_0 l0_1 l0_2 l1 (wrap64 (t940 + 1))).bind fun t941 => ((impl_jacobiCode.f k a0_0 l0_1 l0_2 t941).bind fun t942 => (if t942 = 0 then ((impl_Jacobi_field.f a0_0 l0_1 l0_2).bind fun t943 => ((impl_Jacobi_polys.f k a0_0 l0_1 l0_2).bind fun t944 => ((impl_field_sum.f k t943 l1 t944).bind fun t947 => (some (t947, 0))))) else (some (([] : List Int), t942))))) = some (r1, r2) := H
 have A3 := Aside0.mk A30
 clear A30
 replace H := Option.bind_eq_some_iff.mp H
 obtain ⟨t941, A40, H⟩ := H
 replace H : ((impl_jacobiCode.f k a0_0 l0_1 l0_2 t941).bind fun t942 => (if t942 = 0 then ((impl_Jacobi_field.f a0_0 l0_1 l0_2).bind fun t943 => ((impl_Jacobi_polys.f k a0_0 l0_1 l0_2).bind fun t944 => ((impl_field_sum.f k t943 l1 t944).bind fun t947 => (some (t947, 0))))) else (some (([] : List Int), t942)))) = some (r1, r2) := H
 have A4 := Aside0.mk A40
 clear A40
 replace H := Option.bind_eq_some_iff.mp H
 obtain ⟨t942, A50, H⟩ := H
 replace H : (if t942 = 0 then ((impl_Jacobi_field.f a0_0 l0_1 l0_2).bind fun t943 => ((impl_Jacobi_polys.f k a0_0 l0_1 l0_2).bind fun t944 => ((impl_field_sum.f k t943 l1 t944).bind fun t947 => (some (t947, 0))))) else (some (([] : List Int), t942))) = some (r1, r2) := H
 have A5 := Aside0.mk A50
 clear A50
 by_cases c6 : t942 = 0
 ·rw [if_pos c6] at H
  have c6b0 : (t942 == 0) = true := beq_iff_eq.mpr c6
  have c6b1 : (t942 != 0) = false := bne_eq_false_iff_eq.mpr c6
  clear c6
  replace H := Option.bind_eq_some_iff.mp H
  obtain ⟨t943, A70, H⟩ := H
  replace H : ((impl_Jacobi_polys.f k a0_0 l0_1 l0_2).bind fun t944 => ((impl_field_sum.f k t943 l1 t944).bind fun t947 => (some (t947, 0)))) = some (r1, r2) := H
  have A7 := Aside0.mk A70
  clear A70
  replace H := Option.bind_eq_some_iff.mp H
  obtain ⟨t944, A80, H⟩ := H
  replace H : ((impl_field_sum.f k t943 l1 t944).bind fun t947 => (some (t947, 0))) = some (r1, r2) := H
  have A8 := Aside0.mk A80
  clear A80
  replace H := Option.bind_eq_some_iff.mp H
  obtain ⟨t947, A90, H⟩ := H
  replace H : (some (t947, 0)) = some (r1, r2) := H
  have A9 := Aside0.mk A90
  clear A90
  simp only [Option.some.injEq, Prod.mk.injEq] at H
  obtain ⟨rfl, rfl⟩ := H
  go_enter Try.func39, Try.ntmps39
  try go_wp2_with (first | ((with_reducible refine gate_dst (N := 2) rfl ?_); refine box_event ?hg (N := 2) ?hd (cs := #[.int .i64 a0_0, .slice A0_1 l0_1.length c0_1, .slice A0_2 l0_2.length c0_2]) (t := 29) ?hr ?_; (case hd => rfl); (case hg => rfl); (case hr => first | (go_simp; done) | (go_simp; rfl)); intro gb939 hg w10 hbox hb; have n0_ := Aside0.mk (below_step ZB hb); have n1_ := Aside0.mk (hbox); have n2_ := Aside0.mk ((ZG hg : w.heap.size ≤ gb939)); have n3_ := Aside0.mk ((ZG hg : w.heap.size ≤ gb939)); clear HB; have HB := n0_; have BK939 := n1_; have GW939 := n2_; have GE939 := n3_; clear n0_ n1_ n2_ n3_; clear hb hbox hg))
  have n0_ := Aside0.mk (blk_drew BK939.out)
  have n1_ := Aside0.mk (below_drew1 HB.out)
  clear BK939
  clear HB
  have BK939 := n0_
  have HB := n1_
  clear n0_ n1_
  refine start_ (n := 9) (S := fun w' => w'.cell? ⟨gb939, 0, none⟩ = some (.int .i64 a0_0) ∧ w'.cell? ⟨gb939, 1, none⟩ = some (.slice A0_1 l0_1.length c0_1) ∧ w'.cell? ⟨gb939, 2, none⟩ = some (.slice A0_2 l0_2.length c0_2)) (ds := []) #[false, false, false, false, false, false, false, false, false] (by kernel_rfl) rfl rfl ⟨(blk_cell BK939.out 0).trans rfl, (blk_cell BK939.out 1).trans rfl, (blk_cell BK939.out 2).trans rfl⟩ (fun hHeld => ?_); refine with_tabW impl_SumBy.tab1 impl_SumBy.bits1 (fun HT_ HW_ => ?_)
  generalize w10.drew = w11 at BK939 HB hHeld ⊢
  refine Zpt 2 (some 9) (h := ?_)
  refine ZtW3 0 (some 7) hHeld (h := ?_)
  refine ZtW3 1 (some 8) hHeld (h := ?_)
  refine ZtW3 3 (some 10) hHeld (h := ?_)
  refine one_ (i := 4) (N := some 11) #[true, true, true, true, true, false, false, false, false] rfl rfl (one_of HT_.out (by kernel_rfl)) (by decide) (fun K hK => ?_)
  refine goes_ Try.func59 (by kernel_rfl) rfl #[.agg #[.int .i64 a0_0, .slice A0_1 l0_1.length c0_1, .slice A0_2 l0_2.length c0_2]] (by rfl) rfl rfl ZA ?_
  with_reducible refine (impl_Jacobi_size.calls a0_0 _ _ l0_1 _ _ l0_2 t940 _ ?side1 ?side2 ?side3 ?side4 A3.out).mono ?_
  (case side1 => exact ZC HR0_1)
  (case side2 => exact HC0_1.out)
  (case side3 => exact ZC HR0_2)
  (case side4 => exact HC0_2.out)
  rintro e w12 ⟨rfl, hb⟩
  refine ⟨_, rfl, ?_⟩
  have n0_ := ZL BK939 hb
  have n1_ := Aside0.mk (below_step ZB hb)
  clear BK939
  clear HB
  have BK939 := n0_
  have HB := n1_
  clear n0_ n1_
  (try clear hb)
  (try clear hb2)
  (try clear hk)
  (try clear hi)
  refine hK.out _ _ ⟨(blk_cell BK939.out 0).trans rfl, (blk_cell BK939.out 1).trans rfl, (blk_cell BK939.out 2).trans rfl⟩ (fun hHeld => ?_)
  clear hK K
  refine norm_ (a' := ?_) ?_ ?_
  rotate_left
  ·show Act.put _ (some 11) _ = _
   simp only [Act.put, List.setIfInBounds_toArray, List.set_cons_zero, List.set_cons_succ, i64_w, i32_w]
   rfl
  refine Zpt 5 (some 12) (h := ?_)
  refine one_ (i := 6) (N := some 13) #[true, true, true, true, true, true, true, false, false] rfl rfl (one_of HT_.out (by kernel_rfl)) (by decide) (fun K hK => ?_)
  refine goes_ Try.func81 (by kernel_rfl) rfl #[.agg #[.int .i64 a0_0, .slice A0_1 l0_1.length c0_1, .slice A0_2 l0_2.length c0_2], .slice A1 l1.length c1, .int .i64 (wrap64 (t940 + 1))] (by rfl) rfl rfl ZA ?_
  with_reducible refine (impl_Jacobi_isList.calls k a0_0 _ _ l0_1 _ _ l0_2 _ _ l1 (wrap64 (t940 + 1)) t941 _ ?side1 ?side2 ?side3 ?side4 ?side5 ?side6 A4.out).mono ?_
  (case side1 => exact ZC HR0_1)
  (case side2 => exact HC0_1.out)
  (case side3 => exact ZC HR0_2)
  (case side4 => exact HC0_2.out)
  (case side5 => exact ZC HR1)
  (case side6 => exact HC1.out)
  rintro e w13 ⟨rfl, hb⟩
  refine ⟨_, rfl, ?_⟩
  have n0_ := ZL BK939 hb
  have n1_ := Aside0.mk (below_step ZB hb)
  clear BK939
  clear HB
  have BK939 := n0_
  have HB := n1_
  clear n0_ n1_
  (try clear hb)
  (try clear hb2)
  (try clear hk)
  (try clear hi)
  refine hK.out _ _ ⟨(blk_cell BK939.out 0).trans rfl, (blk_cell BK939.out 1).trans rfl, (blk_cell BK939.out 2).trans rfl⟩ (fun hHeld => ?_)
  clear hK K
  refine norm_ (a' := ?_) ?_ ?_
  rotate_left
  ·show Act.put _ (some 13) _ = _
   simp only [Act.put, List.setIfInBounds_toArray, List.set_cons_zero, List.set_cons_succ, i64_w, i32_w]
   rfl
  refine one_ (i := 7) (N := some 14) #[true, true, true, true, true, true, true, true, false] rfl rfl (one_of HT_.out (by kernel_rfl)) (by decide) (fun K hK => ?_)
  refine goes_ Try.func58 (by kernel_rfl) rfl #[.agg #[.int .i64 a0_0, .slice A0_1 l0_1.length c0_1, .slice A0_2 l0_2.length c0_2], .bool t941] (by rfl) rfl rfl ZA ?_
  with_reducible refine (impl_jacobiCode.calls k a0_0 _ _ l0_1 _ _ l0_2 t941 t942 _ ?side1 ?side2 ?side3 ?side4 A5.out).mono ?_
  (case side1 => exact ZC HR0_1)
  (case side2 => exact HC0_1.out)
  (case side3 => exact ZC HR0_2)
  (case side4 => exact HC0_2.out)
  rintro e w14 ⟨rfl, hb⟩
  refine ⟨_, rfl, ?_⟩
  have n0_ := ZL BK939 hb
  have n1_ := Aside0.mk (below_step ZB hb)
  clear BK939
  clear HB
  have BK939 := n0_
  have HB := n1_
  clear n0_ n1_
  (try clear hb)
  (try clear hb2)
  (try clear hk)
  (try clear hi)
  refine hK.out _ _ ⟨(blk_cell BK939.out 0).trans rfl, (blk_cell BK939.out 1).trans rfl, (blk_cell BK939.out 2).trans rfl⟩ (fun hHeld => ?_)
  clear hK K
  refine norm_ (a' := ?_) ?_ ?_
  rotate_left
  ·show Act.put _ (some 14) _ = _
   simp only [Act.put, List.setIfInBounds_toArray, List.set_cons_zero, List.set_cons_succ, i64_w, i32_w]
   rfl
  refine Zpt 8 (some 6) (h := ?_)
  refine done_ (done_of HT_.out (by kernel_rfl)) ?_
  try go_wp2
  have n0_ := Aside0.mk (blk_drew BK939.out)
  have n1_ := Aside0.mk (below_drew1 HB.out)
  clear BK939
  clear HB
  have BK939 := n0_
  have HB := n1_
  clear n0_ n1_
  refine start_ (n := 8) (S := fun w' => w'.cell? ⟨gb939, 0, none⟩ = some (.int .i64 a0_0) ∧ w'.cell? ⟨gb939, 1, none⟩ = some (.slice A0_1 l0_1.length c0_1) ∧ w'.cell? ⟨gb939, 2, none⟩ = some (.slice A0_2 l0_2.length c0_2)) (ds := []) #[false, false, false, false, false, false, false, false] (by kernel_rfl) rfl rfl ⟨(blk_cell BK939.out 0).trans rfl, (blk_cell BK939.out 1).trans rfl, (blk_cell BK939.out 2).trans rfl⟩ (fun hHeld => ?_); refine with_tabW impl_SumBy.tab4 impl_SumBy.bits4 (fun HT_ HW_ => ?_)
  generalize w14.drew = w15 at BK939 HB hHeld ⊢
  refine Zpt 2 (some 20) (h := ?_)
  refine ZtW3 0 (some 18) hHeld (h := ?_)
  refine ZtW3 3 (some 21) hHeld (h := ?_)
  refine one_ (i := 1) (N := some 19) #[true, true, true, true, false, false, false, false] rfl rfl (one_of HT_.out (by kernel_rfl)) (by decide) (fun K hK => ?_)
  refine goes_ Try.func64 (by kernel_rfl) rfl #[.agg #[.int .i64 a0_0, .slice A0_1 l0_1.length c0_1, .slice A0_2 l0_2.length c0_2]] (by rfl) rfl rfl ZA ?_
  with_reducible refine (impl_Jacobi_field.calls a0_0 _ _ l0_1 _ _ l0_2 t943 _ ?side1 ?side2 ?side3 ?side4 A7.out).mono ?_
  (case side1 => exact ZC HR0_1)
  (case side2 => exact HC0_1.out)
  (case side3 => exact ZC HR0_2)
  (case side4 => exact HC0_2.out)
  rintro e w16 ⟨rfl, hb⟩
  refine ⟨_, rfl, ?_⟩
  have n0_ := ZL BK939 hb
  have n1_ := Aside0.mk (below_step ZB hb)
  clear BK939
  clear HB
  have BK939 := n0_
  have HB := n1_
  clear n0_ n1_
  (try clear hb)
  (try clear hb2)
  (try clear hk)
  (try clear hi)
  refine hK.out _ _ ⟨(blk_cell BK939.out 0).trans rfl, (blk_cell BK939.out 1).trans rfl, (blk_cell BK939.out 2).trans rfl⟩ (fun hHeld => ?_)
  clear hK K
  refine norm_ (a' := ?_) ?_ ?_
  rotate_left
  ·show Act.put _ (some 19) _ = _
   simp only [Act.put, List.setIfInBounds_toArray, List.set_cons_zero, List.set_cons_succ, i64_w, i32_w]
   rfl
  refine one_ (i := 4) (N := some 22) #[true, true, true, true, true, false, false, false] rfl rfl (one_of HT_.out (by kernel_rfl)) (by decide) (fun K hK => ?_)
  refine goes_ Try.func73 (by kernel_rfl) rfl #[.agg #[.int .i64 a0_0, .slice A0_1 l0_1.length c0_1, .slice A0_2 l0_2.length c0_2]] (by rfl) rfl rfl ZA ?_
  with_reducible refine (impl_Jacobi_polys.calls k a0_0 _ _ l0_1 _ _ l0_2 t944 _ ?side1 ?side2 ?side3 ?side4 A8.out).mono ?_
  (case side1 => exact ZC HR0_1)
  (case side2 => exact HC0_1.out)
  (case side3 => exact ZC HR0_2)
  (case side4 => exact HC0_2.out)
  rintro e w17 ⟨v945, rfl, ho0, hb⟩
  refine ⟨_, rfl, ?_⟩
  have n0_ := Aside0.mk (Kd.N_lower (Kd.N_mono (ok' := fun k_ => k_ ≠ gb939) ho0 (fun k_ hk_ => (Kd.freshB (ZK BK939) k_ hk_))) (below_size ZB))
  have n1_ := ZL BK939 hb
  have n2_ := Aside0.mk (below_step ZB hb)
  clear BK939
  clear HB
  have HO946 := n0_
  have BK939 := n1_
  have HB := n2_
  clear n0_ n1_ n2_
  (try clear hb)
  (try clear hb2)
  (try clear hk)
  (try clear hi)
  (try clear ho0)
  obtain ⟨Ao18, co18, eo18⟩ := Kd.N_slice HO946.out
  (first | subst eo18 | (injection eo18 with f1_ f2_ f3_; have f4_ := f1_.symm; have f5_ := f3_.symm; clear f1_ f2_ f3_; subst f4_; subst f5_))
  refine hK.out _ _ ⟨(blk_cell BK939.out 0).trans rfl, (blk_cell BK939.out 1).trans rfl, (blk_cell BK939.out 2).trans rfl⟩ (fun hHeld => ?_)
  clear hK K
  refine norm_ (a' := ?_) ?_ ?_
  rotate_left
  ·show Act.put _ (some 22) _ = _
   simp only [Act.put, List.setIfInBounds_toArray, List.set_cons_zero, List.set_cons_succ, i64_w, i32_w]
   rfl
  refine one_ (i := 5) (N := some 23) #[true, true, true, true, true, true, false, false] rfl rfl (one_of HT_.out (by kernel_rfl)) (by decide) (fun K hK => ?_)
  refine goes_ Try.func82 (by kernel_rfl) rfl #[.int .i64 t943, .slice A1 l1.length c1, .slice Ao18 t944.length co18] (by rfl) rfl rfl ZA ?_
  with_reducible refine (impl_field_sum.calls k t943 _ _ l1 _ _ t944 t947 _ ?side1 ?side2 ?side3 ?side4 A9.out).mono ?_
  (case side1 => exact ZC HR1)
  (case side2 => exact HC1.out)
  (case side3 => repeat (first | exact (Kd.N_reads' HO946.out).2.2 | (with_reducible refine Kd.C_alloc ?_ _) | (with_reducible refine Kd.C_drewN ?_ _) | (with_reducible refine Kd.C_drew ?_)))
  (case side4 => exact (Kd.N_reads' HO946.out).2.1)
  rintro e w19 ⟨v948, rfl, ho0, hb⟩
  refine ⟨_, rfl, ?_⟩
  have n0_ := Aside0.mk (Kd.N_elder' (by (with_reducible repeat (first | apply Kd.N_alloc | apply Kd.N_drewN | apply Kd.N_drew)); exact HO946.out) (Kd.R_base ho0) hb)
  have n1_ := Aside0.mk (Kd.R_lower ho0 (below_size ZB))
  have n2_ := ZL BK939 hb
  have n3_ := Aside0.mk (below_step ZB hb)
  clear HO946
  clear BK939
  clear HB
  have HO946 := n0_
  have HO949 := n1_
  have BK939 := n2_
  have HB := n3_
  clear n0_ n1_ n2_ n3_
  (try clear hb)
  (try clear hb2)
  (try clear hk)
  (try clear hi)
  (try clear ho0)
  refine hK.out _ _ ⟨(blk_cell BK939.out 0).trans rfl, (blk_cell BK939.out 1).trans rfl, (blk_cell BK939.out 2).trans rfl⟩ (fun hHeld => ?_)
  clear hK K
  refine norm_ (a' := ?_) ?_ ?_
  rotate_left
  ·show Act.put _ (some 23) _ = _
   simp only [Act.put, List.setIfInBounds_toArray, List.set_cons_zero, List.set_cons_succ, i64_w, i32_w]
   rfl
  refine Zpt 6 (some 4) (h := ?_)
  refine Zpt 7 (some 5) (h := ?_)
  refine done_ (done_of HT_.out (by kernel_rfl)) ?_
  try go_wp2
  go_ret2
  exact ⟨_, by first | rfl | (simp [errW_none, errW_some] <;> rfl) | (simp [*, errW_none, errW_some] <;> rfl), by refine ZQ ?_; exact HO949.out, ZB⟩
 ·rw [if_neg c6] at H
  have c6b0 : (t942 == 0) = false := beq_eq_false_iff_ne.mpr c6
  have c6b1 : (t942 != 0) = true := bne_iff_ne.mpr c6
  simp only [Option.some.injEq, Prod.mk.injEq] at H
  obtain ⟨rfl, rfl⟩ := H
  go_enter Try.func39, Try.ntmps39
  try go_wp2_with (first | ((with_reducible refine gate_dst (N := 2) rfl ?_); refine box_event ?hg (N := 2) ?hd (cs := #[.int .i64 a0_0, .slice A0_1 l0_1.length c0_1, .slice A0_2 l0_2.length c0_2]) (t := 29) ?hr ?_; (case hd => rfl); (case hg => rfl); (case hr => first | (go_simp; done) | (go_simp; rfl)); intro gb939 hg w20 hbox hb; have n0_ := Aside0.mk (below_step ZB hb); have n1_ := Aside0.mk (hbox); have n2_ := Aside0.mk ((ZG hg : w.heap.size ≤ gb939)); have n3_ := Aside0.mk ((ZG hg : w.heap.size ≤ gb939)); clear HB; have HB := n0_; have BK939 := n1_; have GW939 := n2_; have GE939 := n3_; clear n0_ n1_ n2_ n3_; clear hb hbox hg))
  have n0_ := Aside0.mk (blk_drew BK939.out)
  have n1_ := Aside0.mk (below_drew1 HB.out)
  clear BK939
  clear HB
  have BK939 := n0_
  have HB := n1_
  clear n0_ n1_
  refine start_ (n := 9) (S := fun w' => w'.cell? ⟨gb939, 0, none⟩ = some (.int .i64 a0_0) ∧ w'.cell? ⟨gb939, 1, none⟩ = some (.slice A0_1 l0_1.length c0_1) ∧ w'.cell? ⟨gb939, 2, none⟩ = some (.slice A0_2 l0_2.length c0_2)) (ds := []) #[false, false, false, false, false, false, false, false, false] (by kernel_rfl) rfl rfl ⟨(blk_cell BK939.out 0).trans rfl, (blk_cell BK939.out 1).trans rfl, (blk_cell BK939.out 2).trans rfl⟩ (fun hHeld => ?_); refine with_tabW impl_SumBy.tab1 impl_SumBy.bits1 (fun HT_ HW_ => ?_)
  generalize w20.drew = w21 at BK939 HB hHeld ⊢
  refine Zpt 2 (some 9) (h := ?_)
  refine ZtW3 0 (some 7) hHeld (h := ?_)
  refine ZtW3 1 (some 8) hHeld (h := ?_)
  refine ZtW3 3 (some 10) hHeld (h := ?_)
  refine one_ (i := 4) (N := some 11) #[true, true, true, true, true, false, false, false, false] rfl rfl (one_of HT_.out (by kernel_rfl)) (by decide) (fun K hK => ?_)
  refine goes_ Try.func59 (by kernel_rfl) rfl #[.agg #[.int .i64 a0_0, .slice A0_1 l0_1.length c0_1, .slice A0_2 l0_2.length c0_2]] (by rfl) rfl rfl ZA ?_
  with_reducible refine (impl_Jacobi_size.calls a0_0 _ _ l0_1 _ _ l0_2 t940 _ ?side1 ?side2 ?side3 ?side4 A3.out).mono ?_
  (case side1 => exact ZC HR0_1)
  (case side2 => exact HC0_1.out)
  (case side3 => exact ZC HR0_2)
  (case side4 => exact HC0_2.out)
  rintro e w22 ⟨rfl, hb⟩
  refine ⟨_, rfl, ?_⟩
  have n0_ := ZL BK939 hb
  have n1_ := Aside0.mk (below_step ZB hb)
  clear BK939
  clear HB
  have BK939 := n0_
  have HB := n1_
  clear n0_ n1_
  (try clear hb)
  (try clear hb2)
  (try clear hk)
  (try clear hi)
  refine hK.out _ _ ⟨(blk_cell BK939.out 0).trans rfl, (blk_cell BK939.out 1).trans rfl, (blk_cell BK939.out 2).trans rfl⟩ (fun hHeld => ?_)
  clear hK K
  refine norm_ (a' := ?_) ?_ ?_
  rotate_left
  ·show Act.put _ (some 11) _ = _
   simp only [Act.put, List.setIfInBounds_toArray, List.set_cons_zero, List.set_cons_succ, i64_w, i32_w]
   rfl
  refine Zpt 5 (some 12) (h := ?_)
  refine one_ (i := 6) (N := some 13) #[true, true, true, true, true, true, true, false, false] rfl rfl (one_of HT_.out (by kernel_rfl)) (by decide) (fun K hK => ?_)
  refine goes_ Try.func81 (by kernel_rfl) rfl #[.agg #[.int .i64 a0_0, .slice A0_1 l0_1.length c0_1, .slice A0_2 l0_2.length c0_2], .slice A1 l1.length c1, .int .i64 (wrap64 (t940 + 1))] (by rfl) rfl rfl ZA ?_
  with_reducible refine (impl_Jacobi_isList.calls k a0_0 _ _ l0_1 _ _ l0_2 _ _ l1 (wrap64 (t940 + 1)) t941 _ ?side1 ?side2 ?side3 ?side4 ?side5 ?side6 A4.out).mono ?_
  (case side1 => exact ZC HR0_1)
  (case side2 => exact HC0_1.out)
  (case side3 => exact ZC HR0_2)
  (case side4 => exact HC0_2.out)
  (case side5 => exact ZC HR1)
  (case side6 => exact HC1.out)
  rintro e w23 ⟨rfl, hb⟩
  refine ⟨_, rfl, ?_⟩
  have n0_ := ZL BK939 hb
  have n1_ := Aside0.mk (below_step ZB hb)
  clear BK939
  clear HB
  have BK939 := n0_
  have HB := n1_
  clear n0_ n1_
  (try clear hb)
  (try clear hb2)
  (try clear hk)
  (try clear hi)
  refine hK.out _ _ ⟨(blk_cell BK939.out 0).trans rfl, (blk_cell BK939.out 1).trans rfl, (blk_cell BK939.out 2).trans rfl⟩ (fun hHeld => ?_)
  clear hK K
  refine norm_ (a' := ?_) ?_ ?_
  rotate_left
  ·show Act.put _ (some 13) _ = _
   simp only [Act.put, List.setIfInBounds_toArray, List.set_cons_zero, List.set_cons_succ, i64_w, i32_w]
   rfl
  refine one_ (i := 7) (N := some 14) #[true, true, true, true, true, true, true, true, false] rfl rfl (one_of HT_.out (by kernel_rfl)) (by decide) (fun K hK => ?_)
  refine goes_ Try.func58 (by kernel_rfl) rfl #[.agg #[.int .i64 a0_0, .slice A0_1 l0_1.length c0_1, .slice A0_2 l0_2.length c0_2], .bool t941] (by rfl) rfl rfl ZA ?_
  with_reducible refine (impl_jacobiCode.calls k a0_0 _ _ l0_1 _ _ l0_2 t941 t942 _ ?side1 ?side2 ?side3 ?side4 A5.out).mono ?_
  (case side1 => exact ZC HR0_1)
  (case side2 => exact HC0_1.out)
  (case side3 => exact ZC HR0_2)
  (case side4 => exact HC0_2.out)
  rintro e w24 ⟨rfl, hb⟩
  refine ⟨_, rfl, ?_⟩
  have n0_ := ZL BK939 hb
  have n1_ := Aside0.mk (below_step ZB hb)
  clear BK939
  clear HB
  have BK939 := n0_
  have HB := n1_
  clear n0_ n1_
  (try clear hb)
  (try clear hb2)
  (try clear hk)
  (try clear hi)
  refine hK.out _ _ ⟨(blk_cell BK939.out 0).trans rfl, (blk_cell BK939.out 1).trans rfl, (blk_cell BK939.out 2).trans rfl⟩ (fun hHeld => ?_)
  clear hK K
  refine norm_ (a' := ?_) ?_ ?_
  rotate_left
  ·show Act.put _ (some 14) _ = _
   simp only [Act.put, List.setIfInBounds_toArray, List.set_cons_zero, List.set_cons_succ, i64_w, i32_w]
   rfl
  refine Zpt 8 (some 6) (h := ?_)
  refine done_ (done_of HT_.out (by kernel_rfl)) ?_
  try go_wp2
  go_ret2
  exact ⟨_, by first | rfl | (simp [errW_none, errW_some] <;> rfl) | (simp [*, errW_none, errW_some] <;> rfl), by first | exact Kd.R_nil _ _ _ _ _ | exact Kd.N_nil _ _ _ _ _ | exact Kd.V_nil _ _ _ _ _ | exact Kd.Q_nil _ _ _ _ _ | exact Kd.S_nil _ _ _ _ _, ZB⟩

end Go.Proofs.Ytaclapojgdekpaa.X
