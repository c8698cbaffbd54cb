/- Contracts of functions that the law reaches, printed by a program of this session; Lean checks them. -/
import Derived.Test.YtaclapojgdekpaaCValueByX0
import Derived.Test.YtaclapojgdekpaaCValueByX22
import Derived.Test.YtaclapojgdekpaaCValueByX31
import Derived.Test.YtaclapojgdekpaaCValueByX34
import Derived.Test.YtaclapojgdekpaaCValueByX5
import Derived.Test.YtaclapojgdekpaaCValueByX7
import Derived.Test.YtaclapojgdekpaaCValueByXZ
namespace Go.Proofs.Ytaclapojgdekpaa.X
open Go.RowKit Go.Proofs.YtaclapojgdekpaaW.PrintWords Go.Proofs.YtaclapojgdekpaaW.PrintLast Go.Proofs.YtaclapojgdekpaaW.PrintMore
attribute [local go_sem] max2_int min2_int max_two min_two max_three min_three max_four min_four   -- for this text's walks alone
set_option linter.unusedVariables false
set_option linter.unusedSimpArgs false

/-! ### impl_ValueBy: function 41 -/
def impl_ValueBy.j0 : Nat → List Int → Int → Int → Int → List Int → List Int → Option (Int × Int)
 | 0, _, _, _, _, _, _ => none
 | k + 1, x1, x2, x8, x1098000, x1098001, x1098002 => if x8 = 0 then ((impl_Jacobi_field.f x1098000 x1098001 x1098002).bind fun t1104 => ((impl_Jacobi_field.f x1098000 x1098001 x1098002).bind fun t1105 => ((impl_Jacobi_polys.f k x1098000 x1098001 x1098002).bind fun t1106 => ((impl_field_sum.f k t1105 x1 t1106).bind fun t1109 => ((impl_field_value.f t1104 t1109 x2).bind fun t1112 => (some (t1112, 0))))))) else (some (0, x8))
def impl_ValueBy.f (k : Nat) (a0_0 : Int) (l0_1 : List Int) (l0_2 : List Int) (l1 : List Int) (a2 : Int) : Option (Int × Int) := (impl_Jacobi_size.f a0_0 l0_1 l0_2).bind fun t1098 => ((impl_Jacobi_isList.f k a0_0 l0_1 l0_2 l1 (wrap64 (t1098 + 1))).bind fun t1099 => (if t1099 = true then ((impl_Jacobi_field.f a0_0 l0_1 l0_2).bind fun t1100 => ((impl_field_has.f t1100 a2).bind fun t1101 => ((impl_jacobiCode.f k a0_0 l0_1 l0_2 t1101).bind fun t1102 => (impl_ValueBy.j0 k l1 a2 t1102 a0_0 l0_1 l0_2)))) else ((impl_jacobiCode.f k a0_0 l0_1 l0_2 false).bind fun t1103 => (impl_ValueBy.j0 k l1 a2 t1103 a0_0 l0_1 l0_2))))
theorem impl_ValueBy.mono_l : ∀ k, (∀ y0 y1 y2 y3 y4 y5, LeO (impl_ValueBy.j0 k y0 y1 y2 y3 y4 y5) (impl_ValueBy.j0 (k + 1) y0 y1 y2 y3 y4 y5))
 | 0 => fun _ _ _ _ _ _ r h => by simp [impl_ValueBy.j0] at h
 | k + 1 => by
  have ih0 := impl_ValueBy.mono_l k
  ·intro y0 y1 y2 y3 y4 y5
   unfold impl_ValueBy.j0
   repeat' first
   | (with_reducible exact ih0 _ _ _ _ _ _)
   | (with_reducible exact impl_Jacobi_isList.mono _ _ _ _ _ _)
   | (with_reducible exact impl_Jacobi_polys.mono _ _ _ _)
   | (with_reducible exact impl_field_sum.mono _ _ _ _)
   | (with_reducible exact impl_jacobiCode.mono _ _ _ _ _)
   | (with_reducible exact LeO.refl _)
   | (with_reducible exact LeO.none _)
   | (with_reducible refine LeO.ite ?_ ?_)
   | (with_reducible refine LeO.bind ?_ (fun _ => ?_))
   | exact ih0 _ _ _ _ _ _
   | exact impl_Jacobi_isList.mono _ _ _ _ _ _
   | exact impl_Jacobi_polys.mono _ _ _ _
   | exact impl_field_sum.mono _ _ _ _
   | exact impl_jacobiCode.mono _ _ _ _ _
   | exact LeO.none _
   | refine LeO.ite ?_ ?_
   | refine LeO.bind ?_ (fun _ => ?_)
theorem impl_ValueBy.mono : ∀ a0 a1 a2 a3 a4 k, LeO (impl_ValueBy.f k a0 a1 a2 a3 a4) (impl_ValueBy.f (k + 1) a0 a1 a2 a3 a4) := by
 intro a0 a1 a2 a3 a4 k
 have ih0 := impl_ValueBy.mono_l k
 unfold impl_ValueBy.f
 repeat' first
   | (with_reducible exact ih0 _ _ _ _ _ _)
   | (with_reducible exact impl_Jacobi_isList.mono _ _ _ _ _ _)
   | (with_reducible exact impl_Jacobi_polys.mono _ _ _ _)
   | (with_reducible exact impl_field_sum.mono _ _ _ _)
   | (with_reducible exact impl_jacobiCode.mono _ _ _ _ _)
   | (with_reducible exact LeO.refl _)
   | (with_reducible exact LeO.none _)
   | (with_reducible refine LeO.ite ?_ ?_)
   | (with_reducible refine LeO.bind ?_ (fun _ => ?_))
   | exact ih0 _ _ _ _ _ _
   | exact impl_Jacobi_isList.mono _ _ _ _ _ _
   | exact impl_Jacobi_polys.mono _ _ _ _
   | exact impl_field_sum.mono _ _ _ _
   | exact impl_jacobiCode.mono _ _ _ _ _
   | exact LeO.none _
   | refine LeO.ite ?_ ?_
   | refine LeO.bind ?_ (fun _ => ?_)
def impl_ValueBy.T1 : Bool × List (List Nat × List Nat) := (true, [([], []), ([], []), ([], []), ([], []), ([3], [3]), ([4], [4]), ([1, 2, 5, 4], [1, 2, 5]), ([6, 6], [6]), ([7], [7]), ([8, 7, 7], [7, 8]), ([7], [7]), ([9, 10, 9, 7], [7, 9, 10]), ([7, 11], [7, 11]), ([0, 12, 11], [0, 12]), ([13, 13, 0, 1, 2, 3, 4, 5, 6, 7, 8, 9, 10, 11, 12, 13], [13])])
def impl_ValueBy.B1 : List Nat := [0, 0, 0, 0, 8, 24, 62, 126, 254, 510, 254, 2046, 4094, 8191, 16383]
theorem impl_ValueBy.tab1 : rtab .any (opsOf Try.f41 1) = impl_ValueBy.T1 := by kernel_rfl
theorem impl_ValueBy.bits1 : waitsOk impl_ValueBy.T1.2 impl_ValueBy.B1 = true := by kernel_rfl
def impl_ValueBy.T4 : Bool × List (List Nat × List Nat) := (true, [([], []), ([0], [0]), ([], []), ([2, 1], [2]), ([], []), ([], []), ([5, 3], [5]), ([3, 4, 6, 6], [3, 4, 6]), ([], []), ([1, 7, 8, 7], [1, 7, 8]), ([9, 9, 0, 1, 2, 3, 4, 5, 6, 7, 8, 9], [9]), ([10, 0, 1, 2, 3, 4, 5, 6, 7, 8, 9, 10], [])])
def impl_ValueBy.B4 : List Nat := [0, 1, 0, 7, 0, 0, 47, 127, 0, 511, 1023, 2047]
theorem impl_ValueBy.tab4 : rtab .any (opsOf Try.f41 4) = impl_ValueBy.T4 := by kernel_rfl
theorem impl_ValueBy.bits4 : waitsOk impl_ValueBy.T4.2 impl_ValueBy.B4 = true := by kernel_rfl
set_option maxHeartbeats 8000000 in
set_option maxRecDepth 100000 in
theorem impl_ValueBy.calls (k : Nat) (a0_0 : Int) (A0_1 : Option Addr) (c0_1 : Nat) (l0_1 : List Int) (A0_2 : Option Addr) (c0_2 : Nat) (l0_2 : List Int) (A1 : Option Addr) (c1 : Nat) (l1 : List Int) (a2 : Int) (r1 : Int) (r2 : Int) (w : World) (hr0_1 : Kd.C (Kd.int .i64) w A0_1 l0_1.length l0_1) (hc0_1 : l0_1.length ≤ c0_1) (hr0_2 : Kd.C (Kd.int .i64) w A0_2 l0_2.length l0_2) (hc0_2 : l0_2.length ≤ c0_2) (hr1 : Kd.C (Kd.int .i64) w A1 l1.length l1) (hc1 : l1.length ≤ c1) (h : impl_ValueBy.f k a0_0 l0_1 l0_2 l1 a2 = some (r1, r2)) :
  Calls Try.prog 41 #[.agg #[.int .i64 a0_0, .slice A0_1 l0_1.length c0_1, .slice A0_2 l0_2.length c0_2], .slice A1 l1.length c1, .int .i64 a2] w fun e w' => e = .returned (.tuple #[.int .i64 r1, .int .i64 r2]) ∧ Below w.heap.size w w' := by
 have hu29 := Try.underlying29
 have HR0_1 := Aside0.mk hr0_1
 have HC0_1 := Aside0.mk hc0_1
 clear hr0_1 hc0_1
 have HR0_2 := Aside0.mk hr0_2
 have HC0_2 := Aside0.mk hc0_2
 clear hr0_2 hc0_2
 have HR1 := Aside0.mk hr1
 have HC1 := Aside0.mk hc1
 clear hr1 hc1
 have HB := Aside0.mk (Below.refl w.heap.size w)
 have H : ((impl_Jacobi_size.f a0_0 l0_1 l0_2).bind fun t1098 => ((impl_Jacobi_isList.f k a0_0 l0_1 l0_2 l1 (wrap64 (t1098 + 1))).bind fun t1099 => (if t1099 = true then ((impl_Jacobi_field.f a0_0 l0_1 l0_2).bind fun t1100 => ((impl_field_has.f t1100 a2).bind fun t1101 => ((impl_jacobiCode.f k a0_0 l0_1 l0_2 t1101).bind fun t1102 => (impl_ValueBy.j0 k l1 a2 t1102 a0_0 l0_1 l0_2)))) else ((impl_jacobiCode.f k a0_0 l0_1 l0_2 false).bind fun t1103 => (impl_ValueBy.j0 k l1 a2 t1103 a0_0 l0_1 l0_2))))) = some (r1, r2) := h
 clear h
 have HC4 := Aside0.mk H
 clear H
 go_enter Try.func41, Try.ntmps41
 go_upto_region 1 with (first | ((with_reducible refine gate_dst (N := 3) rfl ?_); refine box_event ?hg (N := 3) ?hd (cs := #[.int .i64 a0_0, .slice A0_1 l0_1.length c0_1, .slice A0_2 l0_2.length c0_2]) (t := 29) ?hr ?_; (case hd => rfl); (case hg => rfl); (case hr => first | (go_simp; done) | (go_simp; rfl)); intro gb1097 hg w5 hbox hb; have n0_ := Aside0.mk (below_step ZB hb); have n1_ := Aside0.mk (hbox); have n2_ := Aside0.mk ((ZG hg : w.heap.size ≤ gb1097)); have n3_ := Aside0.mk ((ZG hg : w.heap.size ≤ gb1097)); clear HB; have HB := n0_; have BK1097 := n1_; have GW1097 := n2_; have GE1097 := n3_; clear n0_ n1_ n2_ n3_; clear hb hbox hg))
 (try simp only [Act.put, List.setIfInBounds_toArray, List.set_cons_zero, List.set_cons_succ])
 go_cut [8] (fun v8 wc => ∃ (kq : Nat) (x8_3 : Int), v8 = .int .i64 x8_3 ∧ Aside0 (impl_ValueBy.j0 kq l1 a2 x8_3 a0_0 l0_1 l0_2 = some (r1, r2)) ∧ Aside0 (kq ≤ k) ∧ Aside0 (wc.heap[gb1097]? = some (.cells #[.int .i64 a0_0, (.slice A0_1 l0_1.length c0_1), (.slice A0_2 l0_2.length c0_2)] 29 (0, 0))) ∧ Aside0 (Below w.heap.size w wc))
 case first =>
  have H := HC4.out
  clear HC4
  replace H := Option.bind_eq_some_iff.mp H
  obtain ⟨t1098, A60, H⟩ := H
  replace H : ((impl_Jacobi_isList.f k a0_0 l0_1 l0_2 l1 (wrap64 (t1098 + 1))).bind fun t1099 => (if t1099 = true then ((impl_Jacobi_field.f a0_0 l0_1 l0_2).bind fun t1100 => ((impl_field_has.f t1100 a2).bind fun t1101 => ((impl_jacobiCode.f k a0_0 l0_1 l0_2 t1101).bind fun t1102 => (impl_ValueBy.j0 k l1 a2 t1102 a0_0 l0_1 l0_2)))) else ((impl_jacobiCode.f k a0_0 l0_1 l0_2 false).bind fun t1103 => (impl_ValueBy.j0 k l1 a2 t1103 a0_0 l0_1 l0_2)))) = some (r1, r2) := H
  have A6 := Aside0.mk A60
  clear A60
  replace H := Option.bind_eq_some_iff.mp H
  obtain ⟨t1099, A70, H⟩ := H
  replace H : (if t1099 = true then ((impl_Jacobi_field.f a0_0 l0_1 l0_2).bind fun t1100 => ((impl_field_has.f t1100 a2).bind fun t1101 => ((impl_jacobiCode.f k a0_0 l0_1 l0_2 t1101).bind fun t1102 => (impl_ValueBy.j0 k l1 a2 t1102 a0_0 l0_1 l0_2)))) else ((impl_jacobiCode.f k a0_0 l0_1 l0_2 false).bind fun t1103 => (impl_ValueBy.j0 k l1 a2 t1103 a0_0 l0_1 l0_2))) = some (r1, r2) := H
  have A7 := Aside0.mk A70
  clear A70
  by_cases c8 : t1099 = true
  ·subst c8
   have H1 : ((impl_Jacobi_field.f a0_0 l0_1 l0_2).bind fun t1100 => ((impl_field_has.f t1100 a2).bind fun t1101 => ((impl_jacobiCode.f k a0_0 l0_1 l0_2 t1101).bind fun t1102 => (impl_ValueBy.j0 k l1 a2 t1102 a0_0 l0_1 l0_2)))) = some (r1, r2) := by rw [if_pos rfl] at H; exact H
   clear H
   have H := H1
   clear H1
   replace H := Option.bind_eq_some_iff.mp H
   obtain ⟨t1100, A90, H⟩ := H
   replace H : ((impl_field_has.f t1100 a2).bind fun t1101 => ((impl_jacobiCode.f k a0_0 l0_1 l0_2 t1101).bind fun t1102 => (impl_ValueBy.j0 k l1 a2 t1102 a0_0 l0_1 l0_2))) = some (r1, r2) := H
   have A9 := Aside0.mk A90
   clear A90
   replace H := Option.bind_eq_some_iff.mp H
   obtain ⟨t1101, A100, H⟩ := H
   replace H : ((impl_jacobiCode.f k a0_0 l0_1 l0_2 t1101).bind fun t1102 => (impl_ValueBy.j0 k l1 a2 t1102 a0_0 l0_1 l0_2)) = some (r1, r2) := H
   have A10 := Aside0.mk A100
   clear A100
   replace H := Option.bind_eq_some_iff.mp H
   obtain ⟨t1102, A110, H⟩ := H
   replace H : (impl_ValueBy.j0 k l1 a2 t1102 a0_0 l0_1 l0_2) = some (r1, r2) := H
   have A11 := Aside0.mk A110
   clear A110
   have H' := Aside0.mk H
   clear H
   try go_wp2
   have n0_ := Aside0.mk (blk_drew BK1097.out)
   have n1_ := Aside0.mk (below_drew1 HB.out)
   clear BK1097
   clear HB
   have BK1097 := n0_
   have HB := n1_
   clear n0_ n1_
   refine start_ (n := 15) (S := fun w' => w'.cell? ⟨gb1097, 0, none⟩ = some (.int .i64 a0_0) ∧ w'.cell? ⟨gb1097, 1, none⟩ = some (.slice A0_1 l0_1.length c0_1) ∧ w'.cell? ⟨gb1097, 2, none⟩ = some (.slice A0_2 l0_2.length c0_2)) (ds := []) #[false, false, false, false, false, false, false, false, false, false, false, false, false, false, false] (by kernel_rfl) rfl rfl ⟨(blk_cell BK1097.out 0).trans rfl, (blk_cell BK1097.out 1).trans rfl, (blk_cell BK1097.out 2).trans rfl⟩ (fun hHeld => ?_); refine with_tabW impl_ValueBy.tab1 impl_ValueBy.bits1 (fun HT_ HW_ => ?_)
   generalize w5.drew = w12 at BK1097 HB hHeld ⊢
   refine Zpt 2 (some 11) (h := ?_)
   refine ZtW3 0 (some 9) hHeld (h := ?_)
   refine ZtW3 1 (some 10) hHeld (h := ?_)
   refine ZtW3 3 (some 12) hHeld (h := ?_)
   refine one_ (i := 4) (N := some 13) #[true, true, true, true, true, false, false, false, false, false, false, false, false, false, false] rfl rfl (one_of HT_.out (by kernel_rfl)) (by decide) (fun K hK => ?_)
   refine goes_ Try.func59 (by kernel_rfl) rfl #[.agg #[.int .i64 a0_0, .slice A0_1 l0_1.length c0_1, .slice A0_2 l0_2.length c0_2]] (by rfl) rfl rfl ZA ?_
   with_reducible refine (impl_Jacobi_size.calls a0_0 _ _ l0_1 _ _ l0_2 t1098 _ ?side1 ?side2 ?side3 ?side4 A6.out).mono ?_
   (case side1 => exact ZC HR0_1)
   (case side2 => exact HC0_1.out)
   (case side3 => exact ZC HR0_2)
   (case side4 => exact HC0_2.out)
   rintro e w13 ⟨rfl, hb⟩
   refine ⟨_, rfl, ?_⟩
   have n0_ := ZL BK1097 hb
   have n1_ := Aside0.mk (below_step ZB hb)
   clear BK1097
   clear HB
   have BK1097 := n0_
   have HB := n1_
   clear n0_ n1_
   (try clear hb)
   (try clear hb2)
   (try clear hk)
   (try clear hi)
   refine hK.out _ _ ⟨(blk_cell BK1097.out 0).trans rfl, (blk_cell BK1097.out 1).trans rfl, (blk_cell BK1097.out 2).trans rfl⟩ (fun hHeld => ?_)
   clear hK K
   refine norm_ (a' := ?_) ?_ ?_
   rotate_left
   ·show Act.put _ (some 13) _ = _
    simp only [Act.put, List.setIfInBounds_toArray, List.set_cons_zero, List.set_cons_succ, i64_w, i32_w]
    rfl
   refine Zpt 5 (some 14) (h := ?_)
   refine one_ (i := 6) (N := some 15) #[true, true, true, true, true, true, true, false, false, false, false, false, false, false, false] rfl rfl (one_of HT_.out (by kernel_rfl)) (by decide) (fun K hK => ?_)
   refine goes_ Try.func81 (by kernel_rfl) rfl #[.agg #[.int .i64 a0_0, .slice A0_1 l0_1.length c0_1, .slice A0_2 l0_2.length c0_2], .slice A1 l1.length c1, .int .i64 (wrap64 (t1098 + 1))] (by rfl) rfl rfl ZA ?_
   with_reducible refine (impl_Jacobi_isList.calls k a0_0 _ _ l0_1 _ _ l0_2 _ _ l1 (wrap64 (t1098 + 1)) true _ ?side1 ?side2 ?side3 ?side4 ?side5 ?side6 A7.out).mono ?_
   (case side1 => exact ZC HR0_1)
   (case side2 => exact HC0_1.out)
   (case side3 => exact ZC HR0_2)
   (case side4 => exact HC0_2.out)
   (case side5 => exact ZC HR1)
   (case side6 => exact HC1.out)
   rintro e w14 ⟨rfl, hb⟩
   refine ⟨_, rfl, ?_⟩
   have n0_ := ZL BK1097 hb
   have n1_ := Aside0.mk (below_step ZB hb)
   clear BK1097
   clear HB
   have BK1097 := n0_
   have HB := n1_
   clear n0_ n1_
   (try clear hb)
   (try clear hb2)
   (try clear hk)
   (try clear hi)
   refine hK.out _ _ ⟨(blk_cell BK1097.out 0).trans rfl, (blk_cell BK1097.out 1).trans rfl, (blk_cell BK1097.out 2).trans rfl⟩ (fun hHeld => ?_)
   clear hK K
   refine norm_ (a' := ?_) ?_ ?_
   rotate_left
   ·show Act.put _ (some 15) _ = _
    simp only [Act.put, List.setIfInBounds_toArray, List.set_cons_zero, List.set_cons_succ, i64_w, i32_w]
    rfl
   refine Zpt 7 (some 16) (h := ?_)
   refine Zpt 10 (some 19) (h := ?_)
   refine ZtW3 8 (some 17) hHeld (h := ?_)
   refine one_ (i := 9) (N := some 18) #[true, true, true, true, true, true, true, true, true, true, true, false, false, false, false] rfl rfl (one_of HT_.out (by kernel_rfl)) (by decide) (fun K hK => ?_)
   refine goes_ Try.func64 (by kernel_rfl) rfl #[.agg #[.int .i64 a0_0, .slice A0_1 l0_1.length c0_1, .slice A0_2 l0_2.length c0_2]] (by rfl) rfl rfl ZA ?_
   with_reducible refine (impl_Jacobi_field.calls a0_0 _ _ l0_1 _ _ l0_2 t1100 _ ?side1 ?side2 ?side3 ?side4 A9.out).mono ?_
   (case side1 => exact ZC HR0_1)
   (case side2 => exact HC0_1.out)
   (case side3 => exact ZC HR0_2)
   (case side4 => exact HC0_2.out)
   rintro e w15 ⟨rfl, hb⟩
   refine ⟨_, rfl, ?_⟩
   have n0_ := ZL BK1097 hb
   have n1_ := Aside0.mk (below_step ZB hb)
   clear BK1097
   clear HB
   have BK1097 := n0_
   have HB := n1_
   clear n0_ n1_
   (try clear hb)
   (try clear hb2)
   (try clear hk)
   (try clear hi)
   refine hK.out _ _ ⟨(blk_cell BK1097.out 0).trans rfl, (blk_cell BK1097.out 1).trans rfl, (blk_cell BK1097.out 2).trans rfl⟩ (fun hHeld => ?_)
   clear hK K
   refine norm_ (a' := ?_) ?_ ?_
   rotate_left
   ·show Act.put _ (some 18) _ = _
    simp only [Act.put, List.setIfInBounds_toArray, List.set_cons_zero, List.set_cons_succ, i64_w, i32_w]
    rfl
   refine one_ (i := 11) (N := some 20) #[true, true, true, true, true, true, true, true, true, true, true, true, false, false, false] rfl rfl (one_of HT_.out (by kernel_rfl)) (by decide) (fun K hK => ?_)
   refine goes_ Try.func65 (by kernel_rfl) rfl #[.int .i64 t1100, .int .i64 a2] (by rfl) rfl rfl ZA ?_
   with_reducible refine (impl_field_has.calls t1100 a2 t1101 _ A10.out).mono ?_
   rintro e w' ⟨rfl, ⟨nd, rfl⟩⟩
   refine ⟨_, rfl, ?_⟩
   refine hK.out _ _ ⟨(blk_cell BK1097.out 0).trans rfl, (blk_cell BK1097.out 1).trans rfl, (blk_cell BK1097.out 2).trans rfl⟩ (fun hHeld => ?_)
   clear hK K
   refine norm_ (a' := ?_) ?_ ?_
   rotate_left
   ·show Act.put _ (some 20) _ = _
    simp only [Act.put, List.setIfInBounds_toArray, List.set_cons_zero, List.set_cons_succ, i64_w, i32_w]
    rfl
   refine Zpt 12 (some 21) (h := ?_)
   refine one_ (i := 13) (N := some 22) #[true, true, true, true, true, true, true, true, true, true, true, true, true, true, false] rfl rfl (one_of HT_.out (by kernel_rfl)) (by decide) (fun K hK => ?_)
   refine goes_ Try.func58 (by kernel_rfl) rfl #[.agg #[.int .i64 a0_0, .slice A0_1 l0_1.length c0_1, .slice A0_2 l0_2.length c0_2], .bool t1101] (by rfl) rfl rfl ZA ?_
   with_reducible refine (impl_jacobiCode.calls k a0_0 _ _ l0_1 _ _ l0_2 t1101 t1102 _ ?side1 ?side2 ?side3 ?side4 A11.out).mono ?_
   (case side1 => exact ZE HR0_1)
   (case side2 => exact HC0_1.out)
   (case side3 => exact ZE HR0_2)
   (case side4 => exact HC0_2.out)
   rintro e w16 ⟨rfl, hb⟩
   refine ⟨_, rfl, ?_⟩
   have n0_ := ZL BK1097 hb
   have n1_ := Aside0.mk (below_step ZB hb)
   clear BK1097
   clear HB
   have BK1097 := n0_
   have HB := n1_
   clear n0_ n1_
   (try clear hb)
   (try clear hb2)
   (try clear hk)
   (try clear hi)
   refine hK.out _ _ ⟨(blk_cell BK1097.out 0).trans rfl, (blk_cell BK1097.out 1).trans rfl, (blk_cell BK1097.out 2).trans rfl⟩ (fun hHeld => ?_)
   clear hK K
   refine norm_ (a' := ?_) ?_ ?_
   rotate_left
   ·show Act.put _ (some 22) _ = _
    simp only [Act.put, List.setIfInBounds_toArray, List.set_cons_zero, List.set_cons_succ, i64_w, i32_w]
    rfl
   refine Zpt 14 (some 8) (h := ?_)
   refine done_ (done_of HT_.out (by kernel_rfl)) ?_
   try go_wp2
   go_meet
   case rel => exact ⟨_, (t1102), (by first | rfl | (simp; done) | (simp [*]; done)), H', ⟨by first | omega | exact Nat.le_refl _⟩, ⟨ZK BK1097⟩, ⟨ZB⟩⟩
  ·replace c8 := Bool.eq_false_iff.mpr c8
   subst c8
   have H1 : ((impl_jacobiCode.f k a0_0 l0_1 l0_2 false).bind fun t1103 => (impl_ValueBy.j0 k l1 a2 t1103 a0_0 l0_1 l0_2)) = some (r1, r2) := by rw [if_neg (show ¬ (false = true) by decide)] at H; exact H
   clear H
   have H := H1
   clear H1
   replace H := Option.bind_eq_some_iff.mp H
   obtain ⟨t1103, A170, H⟩ := H
   replace H : (impl_ValueBy.j0 k l1 a2 t1103 a0_0 l0_1 l0_2) = some (r1, r2) := H
   have A17 := Aside0.mk A170
   clear A170
   have H' := Aside0.mk H
   clear H
   try go_wp2
   have n0_ := Aside0.mk (blk_drew BK1097.out)
   have n1_ := Aside0.mk (below_drew1 HB.out)
   clear BK1097
   clear HB
   have BK1097 := n0_
   have HB := n1_
   clear n0_ n1_
   refine start_ (n := 15) (S := fun w' => w'.cell? ⟨gb1097, 0, none⟩ = some (.int .i64 a0_0) ∧ w'.cell? ⟨gb1097, 1, none⟩ = some (.slice A0_1 l0_1.length c0_1) ∧ w'.cell? ⟨gb1097, 2, none⟩ = some (.slice A0_2 l0_2.length c0_2)) (ds := []) #[false, false, false, false, false, false, false, false, false, false, false, false, false, false, false] (by kernel_rfl) rfl rfl ⟨(blk_cell BK1097.out 0).trans rfl, (blk_cell BK1097.out 1).trans rfl, (blk_cell BK1097.out 2).trans rfl⟩ (fun hHeld => ?_); refine with_tabW impl_ValueBy.tab1 impl_ValueBy.bits1 (fun HT_ HW_ => ?_)
   generalize w5.drew = w18 at BK1097 HB hHeld ⊢
   refine Zpt 2 (some 11) (h := ?_)
   refine ZtW3 0 (some 9) hHeld (h := ?_)
   refine ZtW3 1 (some 10) hHeld (h := ?_)
   refine ZtW3 3 (some 12) hHeld (h := ?_)
   refine one_ (i := 4) (N := some 13) #[true, true, true, true, true, false, false, false, false, false, false, false, false, false, false] rfl rfl (one_of HT_.out (by kernel_rfl)) (by decide) (fun K hK => ?_)
   refine goes_ Try.func59 (by kernel_rfl) rfl #[.agg #[.int .i64 a0_0, .slice A0_1 l0_1.length c0_1, .slice A0_2 l0_2.length c0_2]] (by rfl) rfl rfl ZA ?_
   with_reducible refine (impl_Jacobi_size.calls a0_0 _ _ l0_1 _ _ l0_2 t1098 _ ?side1 ?side2 ?side3 ?side4 A6.out).mono ?_
   (case side1 => exact ZC HR0_1)
   (case side2 => exact HC0_1.out)
   (case side3 => exact ZC HR0_2)
   (case side4 => exact HC0_2.out)
   rintro e w19 ⟨rfl, hb⟩
   refine ⟨_, rfl, ?_⟩
   have n0_ := ZL BK1097 hb
   have n1_ := Aside0.mk (below_step ZB hb)
   clear BK1097
   clear HB
   have BK1097 := n0_
   have HB := n1_
   clear n0_ n1_
   (try clear hb)
   (try clear hb2)
   (try clear hk)
   (try clear hi)
   refine hK.out _ _ ⟨(blk_cell BK1097.out 0).trans rfl, (blk_cell BK1097.out 1).trans rfl, (blk_cell BK1097.out 2).trans rfl⟩ (fun hHeld => ?_)
   clear hK K
   refine norm_ (a' := ?_) ?_ ?_
   rotate_left
   ·show Act.put _ (some 13) _ = _
    simp only [Act.put, List.setIfInBounds_toArray, List.set_cons_zero, List.set_cons_succ, i64_w, i32_w]
    rfl
   refine Zpt 5 (some 14) (h := ?_)
   refine one_ (i := 6) (N := some 15) #[true, true, true, true, true, true, true, false, false, false, false, false, false, false, false] rfl rfl (one_of HT_.out (by kernel_rfl)) (by decide) (fun K hK => ?_)
   refine goes_ Try.func81 (by kernel_rfl) rfl #[.agg #[.int .i64 a0_0, .slice A0_1 l0_1.length c0_1, .slice A0_2 l0_2.length c0_2], .slice A1 l1.length c1, .int .i64 (wrap64 (t1098 + 1))] (by rfl) rfl rfl ZA ?_
   with_reducible refine (impl_Jacobi_isList.calls k a0_0 _ _ l0_1 _ _ l0_2 _ _ l1 (wrap64 (t1098 + 1)) false _ ?side1 ?side2 ?side3 ?side4 ?side5 ?side6 A7.out).mono ?_
   (case side1 => exact ZC HR0_1)
   (case side2 => exact HC0_1.out)
   (case side3 => exact ZC HR0_2)
   (case side4 => exact HC0_2.out)
   (case side5 => exact ZC HR1)
   (case side6 => exact HC1.out)
   rintro e w20 ⟨rfl, hb⟩
   refine ⟨_, rfl, ?_⟩
   have n0_ := ZL BK1097 hb
   have n1_ := Aside0.mk (below_step ZB hb)
   clear BK1097
   clear HB
   have BK1097 := n0_
   have HB := n1_
   clear n0_ n1_
   (try clear hb)
   (try clear hb2)
   (try clear hk)
   (try clear hi)
   refine hK.out _ _ ⟨(blk_cell BK1097.out 0).trans rfl, (blk_cell BK1097.out 1).trans rfl, (blk_cell BK1097.out 2).trans rfl⟩ (fun hHeld => ?_)
   clear hK K
   refine norm_ (a' := ?_) ?_ ?_
   rotate_left
   ·show Act.put _ (some 15) _ = _
    simp only [Act.put, List.setIfInBounds_toArray, List.set_cons_zero, List.set_cons_succ, i64_w, i32_w]
    rfl
   refine Zpt 7 (some 16) (h := ?_)
   refine pure_ (i := 8) (N := some 17) (v := undef) (a' := ?_) #[true, true, true, true, true, true, true, true, true, false, false, false, false, false, false] rfl rfl (any_of HT_.out (by kernel_rfl)) (fun _ _ _ h => h) (Or.inr ⟨by rfl, rfl⟩) ?_ ?_
   rotate_left
   ·exact ZW
   refine pure_ (i := 9) (N := some 18) (v := undef) (a' := ?_) #[true, true, true, true, true, true, true, true, true, true, false, false, false, false, false] rfl rfl (any_of HT_.out (by kernel_rfl)) (fun _ _ _ h => h) (Or.inr ⟨by rfl, rfl⟩) ?_ ?_
   rotate_left
   ·exact ZW
   refine pure_ (i := 10) (N := some 19) (v := undef) (a' := ?_) #[true, true, true, true, true, true, true, true, true, true, true, false, false, false, false] rfl rfl (any_of HT_.out (by kernel_rfl)) (fun _ _ _ h => h) (Or.inr ⟨by rfl, rfl⟩) ?_ ?_
   rotate_left
   ·exact ZW
   refine pure_ (i := 11) (N := some 20) (v := undef) (a' := ?_) #[true, true, true, true, true, true, true, true, true, true, true, true, false, false, false] rfl rfl (any_of HT_.out (by kernel_rfl)) (fun _ _ _ h => h) (Or.inr ⟨by rfl, rfl⟩) ?_ ?_
   rotate_left
   ·exact ZW
   refine Zpt 12 (some 21) (h := ?_)
   refine one_ (i := 13) (N := some 22) #[true, true, true, true, true, true, true, true, true, true, true, true, true, true, false] rfl rfl (one_of HT_.out (by kernel_rfl)) (by decide) (fun K hK => ?_)
   refine goes_ Try.func58 (by kernel_rfl) rfl #[.agg #[.int .i64 a0_0, .slice A0_1 l0_1.length c0_1, .slice A0_2 l0_2.length c0_2], .bool false] (by rfl) rfl rfl ZA ?_
   with_reducible refine (impl_jacobiCode.calls k a0_0 _ _ l0_1 _ _ l0_2 false t1103 _ ?side1 ?side2 ?side3 ?side4 A17.out).mono ?_
   (case side1 => exact ZC HR0_1)
   (case side2 => exact HC0_1.out)
   (case side3 => exact ZC HR0_2)
   (case side4 => exact HC0_2.out)
   rintro e w21 ⟨rfl, hb⟩
   refine ⟨_, rfl, ?_⟩
   have n0_ := ZL BK1097 hb
   have n1_ := Aside0.mk (below_step ZB hb)
   clear BK1097
   clear HB
   have BK1097 := n0_
   have HB := n1_
   clear n0_ n1_
   (try clear hb)
   (try clear hb2)
   (try clear hk)
   (try clear hi)
   refine hK.out _ _ ⟨(blk_cell BK1097.out 0).trans rfl, (blk_cell BK1097.out 1).trans rfl, (blk_cell BK1097.out 2).trans rfl⟩ (fun hHeld => ?_)
   clear hK K
   refine norm_ (a' := ?_) ?_ ?_
   rotate_left
   ·show Act.put _ (some 22) _ = _
    simp only [Act.put, List.setIfInBounds_toArray, List.set_cons_zero, List.set_cons_succ, i64_w, i32_w]
    rfl
   refine Zpt 14 (some 8) (h := ?_)
   refine done_ (done_of HT_.out (by kernel_rfl)) ?_
   try go_wp2
   go_meet
   case rel => exact ⟨_, (t1103), (by first | rfl | (simp; done) | (simp [*]; done)), H', ⟨by first | omega | exact Nat.le_refl _⟩, ⟨ZK BK1097⟩, ⟨ZB⟩⟩
 case rest =>
  clear HC4
  try clear c1
  try clear p2
  try clear c4
  try clear c5
  try clear c6
  try clear p6
  try clear c8
  obtain ⟨kq, x8_3, rfl, HA, HJ3, BK1097, HB⟩ := hcut
  cases kq with
  | zero => exact absurd HA.out (by simp [impl_ValueBy.j0])
  | succ kj3 =>
   have H := HA.out
   clear HA
   simp only [impl_ValueBy.j0] at H
   by_cases c22 : x8_3 = 0
   ·rw [if_pos c22] at H
    have c22b0 : (x8_3 == 0) = true := beq_iff_eq.mpr c22
    have c22b1 : (x8_3 != 0) = false := bne_eq_false_iff_eq.mpr c22
    clear c22
    replace H := Option.bind_eq_some_iff.mp H
    obtain ⟨t1104, A230, H⟩ := H
    replace H : ((impl_Jacobi_field.f a0_0 l0_1 l0_2).bind fun t1105 => ((impl_Jacobi_polys.f kj3 a0_0 l0_1 l0_2).bind fun t1106 => ((impl_field_sum.f kj3 t1105 l1 t1106).bind fun t1109 => ((impl_field_value.f t1104 t1109 a2).bind fun t1112 => (some (t1112, 0)))))) = some (r1, r2) := H
    have A23 := Aside0.mk A230
    clear A230
    replace H := Option.bind_eq_some_iff.mp H
    obtain ⟨t1105, A240, H⟩ := H
    replace H : ((impl_Jacobi_polys.f kj3 a0_0 l0_1 l0_2).bind fun t1106 => ((impl_field_sum.f kj3 t1105 l1 t1106).bind fun t1109 => ((impl_field_value.f t1104 t1109 a2).bind fun t1112 => (some (t1112, 0))))) = some (r1, r2) := H
    have A24 := Aside0.mk A240
    clear A240
    replace H := Option.bind_eq_some_iff.mp H
    obtain ⟨t1106, A250, H⟩ := H
    replace H : ((impl_field_sum.f kj3 t1105 l1 t1106).bind fun t1109 => ((impl_field_value.f t1104 t1109 a2).bind fun t1112 => (some (t1112, 0)))) = some (r1, r2) := H
    have A25 := Aside0.mk A250
    clear A250
    replace H := Option.bind_eq_some_iff.mp H
    obtain ⟨t1109, A260, H⟩ := H
    replace H : ((impl_field_value.f t1104 t1109 a2).bind fun t1112 => (some (t1112, 0))) = some (r1, r2) := H
    have A26 := Aside0.mk A260
    clear A260
    replace H := Option.bind_eq_some_iff.mp H
    obtain ⟨t1112, A270, H⟩ := H
    replace H : (some (t1112, 0)) = some (r1, r2) := H
    have A27 := Aside0.mk A270
    clear A270
    simp only [Option.some.injEq, Prod.mk.injEq] at H
    obtain ⟨rfl, rfl⟩ := H
    try go_wp2
    have n0_ := Aside0.mk (blk_drew BK1097.out)
    have n1_ := Aside0.mk (below_drew1 HB.out)
    clear BK1097
    clear HB
    have BK1097 := n0_
    have HB := n1_
    clear n0_ n1_
    refine start_ (n := 12) (S := fun w' => w'.cell? ⟨gb1097, 0, none⟩ = some (.int .i64 a0_0) ∧ w'.cell? ⟨gb1097, 1, none⟩ = some (.slice A0_1 l0_1.length c0_1) ∧ w'.cell? ⟨gb1097, 2, none⟩ = some (.slice A0_2 l0_2.length c0_2)) (ds := []) #[false, false, false, false, false, false, false, false, false, false, false, false] (by kernel_rfl) rfl rfl ⟨(blk_cell BK1097.out 0).trans rfl, (blk_cell BK1097.out 1).trans rfl, (blk_cell BK1097.out 2).trans rfl⟩ (fun hHeld => ?_); refine with_tabW impl_ValueBy.tab4 impl_ValueBy.bits4 (fun HT_ HW_ => ?_)
    generalize wc.drew = w28 at BK1097 HB hHeld ⊢
    refine Zpt 4 (some 30) (h := ?_)
    refine Zpt 8 (some 34) (h := ?_)
    refine ZtW3 0 (some 26) hHeld (h := ?_)
    refine ZtW3 2 (some 28) hHeld (h := ?_)
    refine ZtW3 5 (some 31) hHeld (h := ?_)
    refine one_ (i := 1) (N := some 27) #[true, true, true, false, true, true, false, false, true, false, false, false] rfl rfl (one_of HT_.out (by kernel_rfl)) (by decide) (fun K hK => ?_)
    refine goes_ Try.func64 (by kernel_rfl) rfl #[.agg #[.int .i64 a0_0, .slice A0_1 l0_1.length c0_1, .slice A0_2 l0_2.length c0_2]] (by rfl) rfl rfl ZA ?_
    with_reducible refine (impl_Jacobi_field.calls a0_0 _ _ l0_1 _ _ l0_2 t1104 _ ?side1 ?side2 ?side3 ?side4 A23.out).mono ?_
    (case side1 => exact ZC HR0_1)
    (case side2 => exact HC0_1.out)
    (case side3 => exact ZC HR0_2)
    (case side4 => exact HC0_2.out)
    rintro e w29 ⟨rfl, hb⟩
    refine ⟨_, rfl, ?_⟩
    have n0_ := ZL BK1097 hb
    have n1_ := Aside0.mk (below_step ZB hb)
    clear BK1097
    clear HB
    have BK1097 := n0_
    have HB := n1_
    clear n0_ n1_
    (try clear hb)
    (try clear hb2)
    (try clear hk)
    (try clear hi)
    refine hK.out _ _ ⟨(blk_cell BK1097.out 0).trans rfl, (blk_cell BK1097.out 1).trans rfl, (blk_cell BK1097.out 2).trans rfl⟩ (fun hHeld => ?_)
    clear hK K
    refine norm_ (a' := ?_) ?_ ?_
    rotate_left
    ·show Act.put _ (some 27) _ = _
     simp only [Act.put, List.setIfInBounds_toArray, List.set_cons_zero, List.set_cons_succ, i64_w, i32_w]
     rfl
    refine one_ (i := 3) (N := some 29) #[true, true, true, true, true, true, false, false, true, false, false, false] rfl rfl (one_of HT_.out (by kernel_rfl)) (by decide) (fun K hK => ?_)
    refine goes_ Try.func64 (by kernel_rfl) rfl #[.agg #[.int .i64 a0_0, .slice A0_1 l0_1.length c0_1, .slice A0_2 l0_2.length c0_2]] (by rfl) rfl rfl ZA ?_
    with_reducible refine (impl_Jacobi_field.calls a0_0 _ _ l0_1 _ _ l0_2 t1105 _ ?side1 ?side2 ?side3 ?side4 A24.out).mono ?_
    (case side1 => exact ZC HR0_1)
    (case side2 => exact HC0_1.out)
    (case side3 => exact ZC HR0_2)
    (case side4 => exact HC0_2.out)
    rintro e w30 ⟨rfl, hb⟩
    refine ⟨_, rfl, ?_⟩
    have n0_ := ZL BK1097 hb
    have n1_ := Aside0.mk (below_step ZB hb)
    clear BK1097
    clear HB
    have BK1097 := n0_
    have HB := n1_
    clear n0_ n1_
    (try clear hb)
    (try clear hb2)
    (try clear hk)
    (try clear hi)
    refine hK.out _ _ ⟨(blk_cell BK1097.out 0).trans rfl, (blk_cell BK1097.out 1).trans rfl, (blk_cell BK1097.out 2).trans rfl⟩ (fun hHeld => ?_)
    clear hK K
    refine norm_ (a' := ?_) ?_ ?_
    rotate_left
    ·show Act.put _ (some 29) _ = _
     simp only [Act.put, List.setIfInBounds_toArray, List.set_cons_zero, List.set_cons_succ, i64_w, i32_w]
     rfl
    refine one_ (i := 6) (N := some 32) #[true, true, true, true, true, true, true, false, true, false, false, false] rfl rfl (one_of HT_.out (by kernel_rfl)) (by decide) (fun K hK => ?_)
    refine goes_ Try.func73 (by kernel_rfl) rfl #[.agg #[.int .i64 a0_0, .slice A0_1 l0_1.length c0_1, .slice A0_2 l0_2.length c0_2]] (by rfl) rfl rfl ZA ?_
    with_reducible refine (impl_Jacobi_polys.calls kj3 a0_0 _ _ l0_1 _ _ l0_2 t1106 _ ?side1 ?side2 ?side3 ?side4 A25.out).mono ?_
    (case side1 => exact ZC HR0_1)
    (case side2 => exact HC0_1.out)
    (case side3 => exact ZC HR0_2)
    (case side4 => exact HC0_2.out)
    rintro e w31 ⟨v1107, rfl, ho0, hb⟩
    refine ⟨_, rfl, ?_⟩
    have n0_ := Aside0.mk (Kd.N_lower (Kd.N_mono (ok' := fun k_ => k_ ≠ gb1097) ho0 (fun k_ hk_ => (Kd.freshB (ZK BK1097) k_ hk_))) (below_size ZB))
    have n1_ := ZL BK1097 hb
    have n2_ := Aside0.mk (below_step ZB hb)
    clear BK1097
    clear HB
    have HO1108 := n0_
    have BK1097 := n1_
    have HB := n2_
    clear n0_ n1_ n2_
    (try clear hb)
    (try clear hb2)
    (try clear hk)
    (try clear hi)
    (try clear ho0)
    obtain ⟨Ao32, co32, eo32⟩ := Kd.N_slice HO1108.out
    (first | subst eo32 | (injection eo32 with f1_ f2_ f3_; have f4_ := f1_.symm; have f5_ := f3_.symm; clear f1_ f2_ f3_; subst f4_; subst f5_))
    refine hK.out _ _ ⟨(blk_cell BK1097.out 0).trans rfl, (blk_cell BK1097.out 1).trans rfl, (blk_cell BK1097.out 2).trans rfl⟩ (fun hHeld => ?_)
    clear hK K
    refine norm_ (a' := ?_) ?_ ?_
    rotate_left
    ·show Act.put _ (some 32) _ = _
     simp only [Act.put, List.setIfInBounds_toArray, List.set_cons_zero, List.set_cons_succ, i64_w, i32_w]
     rfl
    refine one_ (i := 7) (N := some 33) #[true, true, true, true, true, true, true, true, true, false, false, false] rfl rfl (one_of HT_.out (by kernel_rfl)) (by decide) (fun K hK => ?_)
    refine goes_ Try.func82 (by kernel_rfl) rfl #[.int .i64 t1105, .slice A1 l1.length c1, .slice Ao32 t1106.length co32] (by rfl) rfl rfl ZA ?_
    with_reducible refine (impl_field_sum.calls kj3 t1105 _ _ l1 _ _ t1106 t1109 _ ?side1 ?side2 ?side3 ?side4 A26.out).mono ?_
    (case side1 => exact ZC HR1)
    (case side2 => exact HC1.out)
    (case side3 => repeat (first | exact (Kd.N_reads' HO1108.out).2.2 | (with_reducible refine Kd.C_alloc ?_ _) | (with_reducible refine Kd.C_drewN ?_ _) | (with_reducible refine Kd.C_drew ?_)))
    (case side4 => exact (Kd.N_reads' HO1108.out).2.1)
    rintro e w33 ⟨v1110, rfl, ho0, hb⟩
    refine ⟨_, rfl, ?_⟩
    have n0_ := Aside0.mk (Kd.N_elder' (by (with_reducible repeat (first | apply Kd.N_alloc | apply Kd.N_drewN | apply Kd.N_drew)); exact HO1108.out) (Kd.R_base ho0) hb)
    have n1_ := Aside0.mk (Kd.R_lower ho0 (below_size ZB))
    have n2_ := ZL BK1097 hb
    have n3_ := Aside0.mk (below_step ZB hb)
    clear HO1108
    clear BK1097
    clear HB
    have HO1108 := n0_
    have HO1111 := n1_
    have BK1097 := n2_
    have HB := n3_
    clear n0_ n1_ n2_ n3_
    (try clear hb)
    (try clear hb2)
    (try clear hk)
    (try clear hi)
    (try clear ho0)
    obtain ⟨Ao34, co34, eo34⟩ := Kd.R_slice HO1111.out
    (first | subst eo34 | (injection eo34 with f1_ f2_ f3_; have f4_ := f1_.symm; have f5_ := f3_.symm; clear f1_ f2_ f3_; subst f4_; subst f5_))
    refine hK.out _ _ ⟨(blk_cell BK1097.out 0).trans rfl, (blk_cell BK1097.out 1).trans rfl, (blk_cell BK1097.out 2).trans rfl⟩ (fun hHeld => ?_)
    clear hK K
    refine norm_ (a' := ?_) ?_ ?_
    rotate_left
    ·show Act.put _ (some 33) _ = _
     simp only [Act.put, List.setIfInBounds_toArray, List.set_cons_zero, List.set_cons_succ, i64_w, i32_w]
     rfl
    refine one_ (i := 9) (N := some 35) #[true, true, true, true, true, true, true, true, true, true, false, false] rfl rfl (one_of HT_.out (by kernel_rfl)) (by decide) (fun K hK => ?_)
    refine goes_ Try.func85 (by kernel_rfl) rfl #[.int .i64 t1104, .slice Ao34 t1109.length co34, .int .i64 a2] (by rfl) rfl rfl ZA ?_
    with_reducible refine (impl_field_value.calls t1104 _ _ t1109 a2 t1112 _ ?side1 ?side2 A27.out).mono ?_
    (case side1 => repeat (first | exact (Kd.R_reads' HO1111.out).2.2 | (with_reducible refine Kd.C_alloc ?_ _) | (with_reducible refine Kd.C_drewN ?_ _) | (with_reducible refine Kd.C_drew ?_)))
    (case side2 => exact (Kd.R_reads' HO1111.out).2.1)
    rintro e w35 ⟨rfl, hb⟩
    refine ⟨_, rfl, ?_⟩
    have n0_ := Aside0.mk (Kd.N_below (by (with_reducible repeat (first | apply Kd.N_alloc | apply Kd.N_drewN | apply Kd.N_drew)); exact HO1108.out) hb)
    have n1_ := Aside0.mk (Kd.R_below (ZR HO1111) hb)
    have n2_ := ZL BK1097 hb
    have n3_ := Aside0.mk (below_step ZB hb)
    clear HO1108
    clear HO1111
    clear BK1097
    clear HB
    have HO1108 := n0_
    have HO1111 := n1_
    have BK1097 := n2_
    have HB := n3_
    clear n0_ n1_ n2_ n3_
    (try clear hb)
    (try clear hb2)
    (try clear hk)
    (try clear hi)
    refine hK.out _ _ ⟨(blk_cell BK1097.out 0).trans rfl, (blk_cell BK1097.out 1).trans rfl, (blk_cell BK1097.out 2).trans rfl⟩ (fun hHeld => ?_)
    clear hK K
    refine norm_ (a' := ?_) ?_ ?_
    rotate_left
    ·show Act.put _ (some 35) _ = _
     simp only [Act.put, List.setIfInBounds_toArray, List.set_cons_zero, List.set_cons_succ, i64_w, i32_w]
     rfl
    refine Zpt 10 (some 6) (h := ?_)
    refine Zpt 11 (some 7) (h := ?_)
    refine done_ (done_of HT_.out (by kernel_rfl)) ?_
    try go_wp2
    go_ret2
    exact ⟨by first | rfl | (simp [errW_none, errW_some] <;> rfl) | (simp [*, errW_none, errW_some] <;> rfl), ZB⟩
   ·rw [if_neg c22] at H
    have c22b0 : (x8_3 == 0) = false := beq_eq_false_iff_ne.mpr c22
    have c22b1 : (x8_3 != 0) = true := bne_iff_ne.mpr c22
    simp only [Option.some.injEq, Prod.mk.injEq] at H
    obtain ⟨rfl, rfl⟩ := H
    go_wp2
    go_ret2
    exact ⟨by first | rfl | (simp [errW_none, errW_some] <;> rfl) | (simp [*, errW_none, errW_some] <;> rfl), ZB⟩

end Go.Proofs.Ytaclapojgdekpaa.X
