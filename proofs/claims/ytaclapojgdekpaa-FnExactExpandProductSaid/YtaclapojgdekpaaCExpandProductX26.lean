/- Contracts of functions that the law reaches, printed by a program of this session; Lean checks them. -/
import Derived.Test.YtaclapojgdekpaaCExpandProductX0
import Derived.Test.YtaclapojgdekpaaCExpandProductX18
import Derived.Test.YtaclapojgdekpaaCExpandProductX19
import Derived.Test.YtaclapojgdekpaaCExpandProductX5
import Derived.Test.YtaclapojgdekpaaCExpandProductX7
import Derived.Test.YtaclapojgdekpaaCExpandProductXZ
namespace Go.Proofs.Ytaclapojgdekpaa.X
open Go.RowKit Go.Proofs.YtaclapojgdekpaaW.PrintWords Go.Proofs.YtaclapojgdekpaaW.PrintLast Go.Proofs.YtaclapojgdekpaaW.PrintMore
attribute [local go_sem] max2_int min2_int max_two min_two max_three min_three max_four min_four   -- for this text's walks alone
set_option linter.unusedVariables false
set_option linter.unusedSimpArgs false

/-! ### impl_ExpandProduct: function 37 -/
def impl_ExpandProduct.j0 : Nat → Int → Int → Int → Int → List Int → List Int → Option (List Int × Int)
 | 0, _, _, _, _, _, _ => none
 | k + 1, x1, x2, x8, x835000, x835001, x835002 => if x8 = 0 then ((impl_Jacobi_field.f x835000 x835001 x835002).bind fun t841 => ((impl_Jacobi_polys.f k x835000 x835001 x835002).bind fun t842 => (if 0 ≤ x1 then (if x1 < (t842.length : Int) then (if 0 ≤ x2 then (if x2 < (t842.length : Int) then ((impl_field_product.f k t841 (rd_L1 t842 x1) (rd_L1 t842 x2)).bind fun t847 => ((impl_field_expand.f k t841 t847 t842).bind fun t850 => (some (t850, 0)))) else (none)) else (none)) else (none)) else (none)))) else (some (([] : List Int), x8))
def impl_ExpandProduct.f (k : Nat) (a0_0 : Int) (l0_1 : List Int) (l0_2 : List Int) (a1 : Int) (a2 : Int) : Option (List Int × Int) := (impl_Jacobi_size.f a0_0 l0_1 l0_2).bind fun t835 => ((impl_within.f a1 0 t835).bind fun t836 => (if t836 = true then ((impl_Jacobi_size.f a0_0 l0_1 l0_2).bind fun t837 => ((impl_within.f a2 0 (wrap64 (t837 - a1))).bind fun t838 => ((impl_jacobiCode.f k a0_0 l0_1 l0_2 t838).bind fun t839 => (impl_ExpandProduct.j0 k a1 a2 t839 a0_0 l0_1 l0_2)))) else ((impl_jacobiCode.f k a0_0 l0_1 l0_2 false).bind fun t840 => (impl_ExpandProduct.j0 k a1 a2 t840 a0_0 l0_1 l0_2))))
theorem impl_ExpandProduct.mono_l : ∀ k, (∀ y0 y1 y2 y3 y4 y5, LeO (impl_ExpandProduct.j0 k y0 y1 y2 y3 y4 y5) (impl_ExpandProduct.j0 (k + 1) y0 y1 y2 y3 y4 y5))
 | 0 => fun _ _ _ _ _ _ r h => by simp [impl_ExpandProduct.j0] at h
 | k + 1 => by
  have ih0 := impl_ExpandProduct.mono_l k
  ·intro y0 y1 y2 y3 y4 y5
   unfold impl_ExpandProduct.j0
   repeat' first
   | (with_reducible exact ih0 _ _ _ _ _ _)
   | (with_reducible exact impl_Jacobi_polys.mono _ _ _ _)
   | (with_reducible exact impl_field_expand.mono _ _ _ _)
   | (with_reducible exact impl_field_product.mono _ _ _ _)
   | (with_reducible exact impl_jacobiCode.mono _ _ _ _ _)
   | (with_reducible exact LeO.refl _)
   | (with_reducible exact LeO.none _)
   | (with_reducible refine LeO.ite ?_ ?_)
   | (with_reducible refine LeO.bind ?_ (fun _ => ?_))
   | exact ih0 _ _ _ _ _ _
   | exact impl_Jacobi_polys.mono _ _ _ _
   | exact impl_field_expand.mono _ _ _ _
   | exact impl_field_product.mono _ _ _ _
   | exact impl_jacobiCode.mono _ _ _ _ _
   | exact LeO.none _
   | refine LeO.ite ?_ ?_
   | refine LeO.bind ?_ (fun _ => ?_)
theorem impl_ExpandProduct.mono : ∀ a0 a1 a2 a3 a4 k, LeO (impl_ExpandProduct.f k a0 a1 a2 a3 a4) (impl_ExpandProduct.f (k + 1) a0 a1 a2 a3 a4) := by
 intro a0 a1 a2 a3 a4 k
 have ih0 := impl_ExpandProduct.mono_l k
 unfold impl_ExpandProduct.f
 repeat' first
   | (with_reducible exact ih0 _ _ _ _ _ _)
   | (with_reducible exact impl_Jacobi_polys.mono _ _ _ _)
   | (with_reducible exact impl_field_expand.mono _ _ _ _)
   | (with_reducible exact impl_field_product.mono _ _ _ _)
   | (with_reducible exact impl_jacobiCode.mono _ _ _ _ _)
   | (with_reducible exact LeO.refl _)
   | (with_reducible exact LeO.none _)
   | (with_reducible refine LeO.ite ?_ ?_)
   | (with_reducible refine LeO.bind ?_ (fun _ => ?_))
   | exact ih0 _ _ _ _ _ _
   | exact impl_Jacobi_polys.mono _ _ _ _
   | exact impl_field_expand.mono _ _ _ _
   | exact impl_field_product.mono _ _ _ _
   | exact impl_jacobiCode.mono _ _ _ _ _
   | exact LeO.none _
   | refine LeO.ite ?_ ?_
   | refine LeO.bind ?_ (fun _ => ?_)
def impl_ExpandProduct.T1 : Bool × List (List Nat × List Nat) := (true, [([], []), ([], []), ([], []), ([2], [2]), ([1, 3, 3], [1, 3]), ([4, 4], [4]), ([5], [5]), ([5], [5]), ([7, 5, 5], [5, 7]), ([5], [5]), ([8, 9, 5], [5, 8, 9]), ([6, 10, 8, 5], [5, 6, 10]), ([5, 11], [5, 11]), ([0, 12, 11], [0, 12]), ([13, 13, 0, 1, 2, 3, 4, 5, 6, 7, 8, 9, 10, 11, 12, 13], [13])])
def impl_ExpandProduct.B1 : List Nat := [0, 0, 0, 4, 14, 30, 62, 62, 190, 62, 958, 2046, 4094, 8191, 16383]
theorem impl_ExpandProduct.tab1 : rtab .any (opsOf Try.f37 1) = impl_ExpandProduct.T1 := by kernel_rfl
theorem impl_ExpandProduct.bits1 : waitsOk impl_ExpandProduct.T1.2 impl_ExpandProduct.B1 = true := by kernel_rfl
def impl_ExpandProduct.T5 : Bool × List (List Nat × List Nat) := (true, [([], []), ([], []), ([], []), ([], []), ([2, 3], [2, 3]), ([4], [4]), ([], []), ([], []), ([6, 7], [6, 7]), ([8], [8]), ([1, 5, 9], [1, 5, 9]), ([], []), ([0, 10, 11, 10], [0, 10, 11]), ([12, 12, 0, 1, 2, 3, 4, 5, 6, 7, 8, 9, 10, 11, 12], [12]), ([13, 0, 1, 2, 3, 4, 5, 6, 7, 8, 9, 10, 11, 12, 13], [])])
def impl_ExpandProduct.B5 : List Nat := [0, 0, 0, 0, 12, 28, 0, 0, 192, 448, 1022, 0, 4095, 8191, 16383]
theorem impl_ExpandProduct.tab5 : rtab .any (opsOf Try.f37 5) = impl_ExpandProduct.T5 := by kernel_rfl
theorem impl_ExpandProduct.bits5 : waitsOk impl_ExpandProduct.T5.2 impl_ExpandProduct.B5 = true := by kernel_rfl
set_option maxHeartbeats 8000000 in
set_option maxRecDepth 100000 in
theorem impl_ExpandProduct.calls (k : Nat) (a0_0 : Int) (A0_1 : Option Addr) (c0_1 : Nat) (l0_1 : List Int) (A0_2 : Option Addr) (c0_2 : Nat) (l0_2 : List Int) (a1 : Int) (a2 : Int) (r1 : List Int) (r2 : Int) (w : World) (hr0_1 : Kd.C (Kd.int .i64) w A0_1 l0_1.length l0_1) (hc0_1 : l0_1.length ≤ c0_1) (hr0_2 : Kd.C (Kd.int .i64) w A0_2 l0_2.length l0_2) (hc0_2 : l0_2.length ≤ c0_2) (h : impl_ExpandProduct.f k a0_0 l0_1 l0_2 a1 a2 = some (r1, r2)) :
  Calls Try.prog 37 #[.agg #[.int .i64 a0_0, .slice A0_1 l0_1.length c0_1, .slice A0_2 l0_2.length c0_2], .int .i64 a1, .int .i64 a2] w fun e w' => ∃ v0_ : Value, e = .returned (.tuple #[v0_, .int .i64 r2]) ∧ Kd.R (Kd.int .i64) 2 w' w.heap.size (fun _ => True) v0_ r1 ∧ Below w.heap.size w w' := by
 have hu29 := Try.underlying29
 have HR0_1 := Aside0.mk hr0_1
 have HC0_1 := Aside0.mk hc0_1
 clear hr0_1 hc0_1
 have HR0_2 := Aside0.mk hr0_2
 have HC0_2 := Aside0.mk hc0_2
 clear hr0_2 hc0_2
 have HB := Aside0.mk (Below.refl w.heap.size w)
 have H : ((impl_Jacobi_size.f a0_0 l0_1 l0_2).bind fun t835 => ((impl_within.f a1 0 t835).bind fun t836 => (if t836 = true then ((impl_Jacobi_size.f a0_0 l0_1 l0_2).bind fun t837 => ((impl_within.f a2 0 (wrap64 (t837 - a1))).bind fun t838 => ((impl_jacobiCode.f k a0_0 l0_1 l0_2 t838).bind fun t839 => (impl_ExpandProduct.j0 k a1 a2 t839 a0_0 l0_1 l0_2)))) else ((impl_jacobiCode.f k a0_0 l0_1 l0_2 false).bind fun t840 => (impl_ExpandProduct.j0 k a1 a2 t840 a0_0 l0_1 l0_2))))) = some (r1, r2) := h
 clear h
 have HC4 := Aside0.mk H
 clear H
 go_enter Try.func37, Try.ntmps37
 go_upto_region 1 with (first | ((with_reducible refine gate_dst (N := 3) rfl ?_); refine box_event ?hg (N := 3) ?hd (cs := #[.int .i64 a0_0, .slice A0_1 l0_1.length c0_1, .slice A0_2 l0_2.length c0_2]) (t := 29) ?hr ?_; (case hd => rfl); (case hg => rfl); (case hr => first | (go_simp; done) | (go_simp; rfl)); intro gb834 hg w5 hbox hb; have n0_ := Aside0.mk (below_step ZB hb); have n1_ := Aside0.mk (hbox); have n2_ := Aside0.mk ((ZG hg : w.heap.size ≤ gb834)); have n3_ := Aside0.mk ((ZG hg : w.heap.size ≤ gb834)); clear HB; have HB := n0_; have BK834 := n1_; have GW834 := n2_; have GE834 := n3_; clear n0_ n1_ n2_ n3_; clear hb hbox hg))
 (try simp only [Act.put, List.setIfInBounds_toArray, List.set_cons_zero, List.set_cons_succ])
 go_cut [8] (fun v8 wc => ∃ (kq : Nat) (x8_3 : Int), v8 = .int .i64 x8_3 ∧ Aside0 (impl_ExpandProduct.j0 kq a1 a2 x8_3 a0_0 l0_1 l0_2 = some (r1, r2)) ∧ Aside0 (kq ≤ k) ∧ Aside0 (wc.heap[gb834]? = some (.cells #[.int .i64 a0_0, (.slice A0_1 l0_1.length c0_1), (.slice A0_2 l0_2.length c0_2)] 29 (0, 0))) ∧ Aside0 (Below w.heap.size w wc))
 case first =>
  have H := HC4.out
  clear HC4
  replace H := Option.bind_eq_some_iff.mp H
  obtain ⟨t835, A60, H⟩ := H
  replace H : ((impl_within.f a1 0 t835).bind fun t836 => (if t836 = true then ((impl_Jacobi_size.f a0_0 l0_1 l0_2).bind fun t837 => ((impl_within.f a2 0 (wrap64 (t837 - a1))).bind fun t838 => ((impl_jacobiCode.f k a0_0 l0_1 l0_2 t838).bind fun t839 => (impl_ExpandProduct.j0 k a1 a2 t839 a0_0 l0_1 l0_2)))) else ((impl_jacobiCode.f k a0_0 l0_1 l0_2 false).bind fun t840 => (impl_ExpandProduct.j0 k a1 a2 t840 a0_0 l0_1 l0_2)))) = some (r1, r2) := H
  have A6 := Aside0.mk A60
  clear A60
  replace H := Option.bind_eq_some_iff.mp H
  obtain ⟨t836, A70, H⟩ := H
  replace H : (if t836 = true then ((impl_Jacobi_size.f a0_0 l0_1 l0_2).bind fun t837 => ((impl_within.f a2 0 (wrap64 (t837 - a1))).bind fun t838 => ((impl_jacobiCode.f k a0_0 l0_1 l0_2 t838).bind fun t839 => (impl_ExpandProduct.j0 k a1 a2 t839 a0_0 l0_1 l0_2)))) else ((impl_jacobiCode.f k a0_0 l0_1 l0_2 false).bind fun t840 => (impl_ExpandProduct.j0 k a1 a2 t840 a0_0 l0_1 l0_2))) = some (r1, r2) := H
  have A7 := Aside0.mk A70
  clear A70
  by_cases c8 : t836 = true
  ·subst c8
   have H1 : ((impl_Jacobi_size.f a0_0 l0_1 l0_2).bind fun t837 => ((impl_within.f a2 0 (wrap64 (t837 - a1))).bind fun t838 => ((impl_jacobiCode.f k a0_0 l0_1 l0_2 t838).bind fun t839 => (impl_ExpandProduct.j0 k a1 a2 t839 a0_0 l0_1 l0_2)))) = some (r1, r2) := by rw [if_pos rfl] at H; exact H
   clear H
   have H := H1
   clear H1
   replace H := Option.bind_eq_some_iff.mp H
   obtain ⟨t837, A90, H⟩ := H
   replace H : ((impl_within.f a2 0 (wrap64 (t837 - a1))).bind fun t838 => ((impl_jacobiCode.f k a0_0 l0_1 l0_2 t838).bind fun t839 => (impl_ExpandProduct.j0 k a1 a2 t839 a0_0 l0_1 l0_2))) = some (r1, r2) := H
   have A9 := Aside0.mk A90
   clear A90
   replace H := Option.bind_eq_some_iff.mp H
   obtain ⟨t838, A100, H⟩ := H
   replace H : ((impl_jacobiCode.f k a0_0 l0_1 l0_2 t838).bind fun t839 => (impl_ExpandProduct.j0 k a1 a2 t839 a0_0 l0_1 l0_2)) = some (r1, r2) := H
   have A10 := Aside0.mk A100
   clear A100
   replace H := Option.bind_eq_some_iff.mp H
   obtain ⟨t839, A110, H⟩ := H
   replace H : (impl_ExpandProduct.j0 k a1 a2 t839 a0_0 l0_1 l0_2) = some (r1, r2) := H
   have A11 := Aside0.mk A110
   clear A110
   have H' := Aside0.mk H
   clear H
   try go_wp2
   have n0_ := Aside0.mk (blk_drew BK834.out)
   have n1_ := Aside0.mk (below_drew1 HB.out)
   clear BK834
   clear HB
   have BK834 := n0_
   have HB := n1_
   clear n0_ n1_
   refine start_ (n := 15) (S := fun w' => w'.cell? ⟨gb834, 0, none⟩ = some (.int .i64 a0_0) ∧ w'.cell? ⟨gb834, 1, none⟩ = some (.slice A0_1 l0_1.length c0_1) ∧ w'.cell? ⟨gb834, 2, none⟩ = some (.slice A0_2 l0_2.length c0_2)) (ds := []) #[false, false, false, false, false, false, false, false, false, false, false, false, false, false, false] (by kernel_rfl) rfl rfl ⟨(blk_cell BK834.out 0).trans rfl, (blk_cell BK834.out 1).trans rfl, (blk_cell BK834.out 2).trans rfl⟩ (fun hHeld => ?_); refine with_tabW impl_ExpandProduct.tab1 impl_ExpandProduct.bits1 (fun HT_ HW_ => ?_)
   generalize w5.drew = w12 at BK834 HB hHeld ⊢
   refine Zpt 1 (some 12) (h := ?_)
   refine ZtW3 0 (some 11) hHeld (h := ?_)
   refine ZtW3 2 (some 13) hHeld (h := ?_)
   refine one_ (i := 3) (N := some 14) #[true, true, true, true, false, false, false, false, false, false, false, false, false, false, false] rfl rfl (one_of HT_.out (by kernel_rfl)) (by decide) (fun K hK => ?_)
   refine goes_ Try.func59 (by kernel_rfl) rfl #[.agg #[.int .i64 a0_0, .slice A0_1 l0_1.length c0_1, .slice A0_2 l0_2.length c0_2]] (by rfl) rfl rfl ZA ?_
   with_reducible refine (impl_Jacobi_size.calls a0_0 _ _ l0_1 _ _ l0_2 t835 _ ?side1 ?side2 ?side3 ?side4 A6.out).mono ?_
   (case side1 => exact ZC HR0_1)
   (case side2 => exact HC0_1.out)
   (case side3 => exact ZC HR0_2)
   (case side4 => exact HC0_2.out)
   rintro e w13 ⟨rfl, hb⟩
   refine ⟨_, rfl, ?_⟩
   have n0_ := ZL BK834 hb
   have n1_ := Aside0.mk (below_step ZB hb)
   clear BK834
   clear HB
   have BK834 := n0_
   have HB := n1_
   clear n0_ n1_
   (try clear hb)
   (try clear hb2)
   (try clear hk)
   (try clear hi)
   refine hK.out _ _ ⟨(blk_cell BK834.out 0).trans rfl, (blk_cell BK834.out 1).trans rfl, (blk_cell BK834.out 2).trans rfl⟩ (fun hHeld => ?_)
   clear hK K
   refine norm_ (a' := ?_) ?_ ?_
   rotate_left
   ·show Act.put _ (some 14) _ = _
    simp only [Act.put, List.setIfInBounds_toArray, List.set_cons_zero, List.set_cons_succ, i64_w, i32_w]
    rfl
   refine one_ (i := 4) (N := some 15) #[true, true, true, true, true, false, false, false, false, false, false, false, false, false, false] rfl rfl (one_of HT_.out (by kernel_rfl)) (by decide) (fun K hK => ?_)
   refine goes_ Try.func76 (by kernel_rfl) rfl #[.int .i64 a1, .int .i64 0, .int .i64 t835] (by rfl) rfl rfl ZA ?_
   with_reducible refine (impl_within.calls a1 0 t835 true _ A7.out).mono ?_
   rintro e w' ⟨rfl, ⟨nd, rfl⟩⟩
   refine ⟨_, rfl, ?_⟩
   refine hK.out _ _ ⟨(blk_cell BK834.out 0).trans rfl, (blk_cell BK834.out 1).trans rfl, (blk_cell BK834.out 2).trans rfl⟩ (fun hHeld => ?_)
   clear hK K
   refine norm_ (a' := ?_) ?_ ?_
   rotate_left
   ·show Act.put _ (some 15) _ = _
    simp only [Act.put, List.setIfInBounds_toArray, List.set_cons_zero, List.set_cons_succ, i64_w, i32_w]
    rfl
   refine Zpt 5 (some 16) (h := ?_)
   refine Zpt 6 (some 17) (h := ?_)
   refine Zpt 9 (some 20) (h := ?_)
   refine ZtW3 7 (some 18) hHeld (h := ?_)
   refine one_ (i := 8) (N := some 19) #[true, true, true, true, true, true, true, true, true, true, false, false, false, false, false] rfl rfl (one_of HT_.out (by kernel_rfl)) (by decide) (fun K hK => ?_)
   refine goes_ Try.func59 (by kernel_rfl) rfl #[.agg #[.int .i64 a0_0, .slice A0_1 l0_1.length c0_1, .slice A0_2 l0_2.length c0_2]] (by rfl) rfl rfl ZA ?_
   with_reducible refine (impl_Jacobi_size.calls a0_0 _ _ l0_1 _ _ l0_2 t837 _ ?side1 ?side2 ?side3 ?side4 A9.out).mono ?_
   (case side1 => exact ZE HR0_1)
   (case side2 => exact HC0_1.out)
   (case side3 => exact ZE HR0_2)
   (case side4 => exact HC0_2.out)
   rintro e w14 ⟨rfl, hb⟩
   refine ⟨_, rfl, ?_⟩
   have n0_ := ZL BK834 hb
   have n1_ := Aside0.mk (below_step ZB hb)
   clear BK834
   clear HB
   have BK834 := n0_
   have HB := n1_
   clear n0_ n1_
   (try clear hb)
   (try clear hb2)
   (try clear hk)
   (try clear hi)
   refine hK.out _ _ ⟨(blk_cell BK834.out 0).trans rfl, (blk_cell BK834.out 1).trans rfl, (blk_cell BK834.out 2).trans rfl⟩ (fun hHeld => ?_)
   clear hK K
   refine norm_ (a' := ?_) ?_ ?_
   rotate_left
   ·show Act.put _ (some 19) _ = _
    simp only [Act.put, List.setIfInBounds_toArray, List.set_cons_zero, List.set_cons_succ, i64_w, i32_w]
    rfl
   refine Zpt 10 (some 21) (h := ?_)
   refine one_ (i := 11) (N := some 22) #[true, true, true, true, true, true, true, true, true, true, true, true, false, false, false] rfl rfl (one_of HT_.out (by kernel_rfl)) (by decide) (fun K hK => ?_)
   refine goes_ Try.func76 (by kernel_rfl) rfl #[.int .i64 a2, .int .i64 0, .int .i64 (wrap64 (t837 - a1))] (by rfl) rfl rfl ZA ?_
   with_reducible refine (impl_within.calls a2 0 (wrap64 (t837 - a1)) t838 _ A10.out).mono ?_
   rintro e w' ⟨rfl, ⟨nd, rfl⟩⟩
   refine ⟨_, rfl, ?_⟩
   refine hK.out _ _ ⟨(blk_cell BK834.out 0).trans rfl, (blk_cell BK834.out 1).trans rfl, (blk_cell BK834.out 2).trans rfl⟩ (fun hHeld => ?_)
   clear hK K
   refine norm_ (a' := ?_) ?_ ?_
   rotate_left
   ·show Act.put _ (some 22) _ = _
    simp only [Act.put, List.setIfInBounds_toArray, List.set_cons_zero, List.set_cons_succ, i64_w, i32_w]
    rfl
   refine Zpt 12 (some 23) (h := ?_)
   refine one_ (i := 13) (N := some 24) #[true, true, true, true, true, true, true, true, true, true, true, true, true, true, false] rfl rfl (one_of HT_.out (by kernel_rfl)) (by decide) (fun K hK => ?_)
   refine goes_ Try.func58 (by kernel_rfl) rfl #[.agg #[.int .i64 a0_0, .slice A0_1 l0_1.length c0_1, .slice A0_2 l0_2.length c0_2], .bool t838] (by rfl) rfl rfl ZA ?_
   with_reducible refine (impl_jacobiCode.calls k a0_0 _ _ l0_1 _ _ l0_2 t838 t839 _ ?side1 ?side2 ?side3 ?side4 A11.out).mono ?_
   (case side1 => exact ZE HR0_1)
   (case side2 => exact HC0_1.out)
   (case side3 => exact ZE HR0_2)
   (case side4 => exact HC0_2.out)
   rintro e w15 ⟨rfl, hb⟩
   refine ⟨_, rfl, ?_⟩
   have n0_ := ZL BK834 hb
   have n1_ := Aside0.mk (below_step ZB hb)
   clear BK834
   clear HB
   have BK834 := n0_
   have HB := n1_
   clear n0_ n1_
   (try clear hb)
   (try clear hb2)
   (try clear hk)
   (try clear hi)
   refine hK.out _ _ ⟨(blk_cell BK834.out 0).trans rfl, (blk_cell BK834.out 1).trans rfl, (blk_cell BK834.out 2).trans rfl⟩ (fun hHeld => ?_)
   clear hK K
   refine norm_ (a' := ?_) ?_ ?_
   rotate_left
   ·show Act.put _ (some 24) _ = _
    simp only [Act.put, List.setIfInBounds_toArray, List.set_cons_zero, List.set_cons_succ, i64_w, i32_w]
    rfl
   refine Zpt 14 (some 8) (h := ?_)
   refine done_ (done_of HT_.out (by kernel_rfl)) ?_
   try go_wp2
   go_meet
   case rel => exact ⟨_, (t839), (by first | rfl | (simp; done) | (simp [*]; done)), H', ⟨by first | omega | exact Nat.le_refl _⟩, ⟨ZK BK834⟩, ⟨ZB⟩⟩
  ·replace c8 := Bool.eq_false_iff.mpr c8
   subst c8
   have H1 : ((impl_jacobiCode.f k a0_0 l0_1 l0_2 false).bind fun t840 => (impl_ExpandProduct.j0 k a1 a2 t840 a0_0 l0_1 l0_2)) = some (r1, r2) := by rw [if_neg (show ¬ (false = true) by decide)] at H; exact H
   clear H
   have H := H1
   clear H1
   replace H := Option.bind_eq_some_iff.mp H
   obtain ⟨t840, A160, H⟩ := H
   replace H : (impl_ExpandProduct.j0 k a1 a2 t840 a0_0 l0_1 l0_2) = some (r1, r2) := H
   have A16 := Aside0.mk A160
   clear A160
   have H' := Aside0.mk H
   clear H
   try go_wp2
   have n0_ := Aside0.mk (blk_drew BK834.out)
   have n1_ := Aside0.mk (below_drew1 HB.out)
   clear BK834
   clear HB
   have BK834 := n0_
   have HB := n1_
   clear n0_ n1_
   refine start_ (n := 15) (S := fun w' => w'.cell? ⟨gb834, 0, none⟩ = some (.int .i64 a0_0) ∧ w'.cell? ⟨gb834, 1, none⟩ = some (.slice A0_1 l0_1.length c0_1) ∧ w'.cell? ⟨gb834, 2, none⟩ = some (.slice A0_2 l0_2.length c0_2)) (ds := []) #[false, false, false, false, false, false, false, false, false, false, false, false, false, false, false] (by kernel_rfl) rfl rfl ⟨(blk_cell BK834.out 0).trans rfl, (blk_cell BK834.out 1).trans rfl, (blk_cell BK834.out 2).trans rfl⟩ (fun hHeld => ?_); refine with_tabW impl_ExpandProduct.tab1 impl_ExpandProduct.bits1 (fun HT_ HW_ => ?_)
   generalize w5.drew = w17 at BK834 HB hHeld ⊢
   refine Zpt 1 (some 12) (h := ?_)
   refine ZtW3 0 (some 11) hHeld (h := ?_)
   refine ZtW3 2 (some 13) hHeld (h := ?_)
   refine one_ (i := 3) (N := some 14) #[true, true, true, true, false, false, false, false, false, false, false, false, false, false, false] rfl rfl (one_of HT_.out (by kernel_rfl)) (by decide) (fun K hK => ?_)
   refine goes_ Try.func59 (by kernel_rfl) rfl #[.agg #[.int .i64 a0_0, .slice A0_1 l0_1.length c0_1, .slice A0_2 l0_2.length c0_2]] (by rfl) rfl rfl ZA ?_
   with_reducible refine (impl_Jacobi_size.calls a0_0 _ _ l0_1 _ _ l0_2 t835 _ ?side1 ?side2 ?side3 ?side4 A6.out).mono ?_
   (case side1 => exact ZC HR0_1)
   (case side2 => exact HC0_1.out)
   (case side3 => exact ZC HR0_2)
   (case side4 => exact HC0_2.out)
   rintro e w18 ⟨rfl, hb⟩
   refine ⟨_, rfl, ?_⟩
   have n0_ := ZL BK834 hb
   have n1_ := Aside0.mk (below_step ZB hb)
   clear BK834
   clear HB
   have BK834 := n0_
   have HB := n1_
   clear n0_ n1_
   (try clear hb)
   (try clear hb2)
   (try clear hk)
   (try clear hi)
   refine hK.out _ _ ⟨(blk_cell BK834.out 0).trans rfl, (blk_cell BK834.out 1).trans rfl, (blk_cell BK834.out 2).trans rfl⟩ (fun hHeld => ?_)
   clear hK K
   refine norm_ (a' := ?_) ?_ ?_
   rotate_left
   ·show Act.put _ (some 14) _ = _
    simp only [Act.put, List.setIfInBounds_toArray, List.set_cons_zero, List.set_cons_succ, i64_w, i32_w]
    rfl
   refine one_ (i := 4) (N := some 15) #[true, true, true, true, true, false, false, false, false, false, false, false, false, false, false] rfl rfl (one_of HT_.out (by kernel_rfl)) (by decide) (fun K hK => ?_)
   refine goes_ Try.func76 (by kernel_rfl) rfl #[.int .i64 a1, .int .i64 0, .int .i64 t835] (by rfl) rfl rfl ZA ?_
   with_reducible refine (impl_within.calls a1 0 t835 false _ A7.out).mono ?_
   rintro e w' ⟨rfl, ⟨nd, rfl⟩⟩
   refine ⟨_, rfl, ?_⟩
   refine hK.out _ _ ⟨(blk_cell BK834.out 0).trans rfl, (blk_cell BK834.out 1).trans rfl, (blk_cell BK834.out 2).trans rfl⟩ (fun hHeld => ?_)
   clear hK K
   refine norm_ (a' := ?_) ?_ ?_
   rotate_left
   ·show Act.put _ (some 15) _ = _
    simp only [Act.put, List.setIfInBounds_toArray, List.set_cons_zero, List.set_cons_succ, i64_w, i32_w]
    rfl
   refine Zpt 5 (some 16) (h := ?_)
   refine pure_ (i := 6) (N := some 17) (v := undef) (a' := ?_) #[true, true, true, true, true, true, true, false, false, false, false, false, false, false, false] rfl rfl (any_of HT_.out (by kernel_rfl)) (fun _ _ _ h => h) (Or.inr ⟨by rfl, rfl⟩) ?_ ?_
   rotate_left
   ·exact ZW
   refine pure_ (i := 7) (N := some 18) (v := undef) (a' := ?_) #[true, true, true, true, true, true, true, true, false, false, false, false, false, false, false] rfl rfl (any_of HT_.out (by kernel_rfl)) (fun _ _ _ h => h) (Or.inr ⟨by rfl, rfl⟩) ?_ ?_
   rotate_left
   ·exact ZW
   refine pure_ (i := 8) (N := some 19) (v := undef) (a' := ?_) #[true, true, true, true, true, true, true, true, true, false, false, false, false, false, false] rfl rfl (any_of HT_.out (by kernel_rfl)) (fun _ _ _ h => h) (Or.inr ⟨by rfl, rfl⟩) ?_ ?_
   rotate_left
   ·exact ZW
   refine pure_ (i := 9) (N := some 20) (v := undef) (a' := ?_) #[true, true, true, true, true, true, true, true, true, true, false, false, false, false, false] rfl rfl (any_of HT_.out (by kernel_rfl)) (fun _ _ _ h => h) (Or.inr ⟨by rfl, rfl⟩) ?_ ?_
   rotate_left
   ·exact ZW
   refine pure_ (i := 10) (N := some 21) (v := undef) (a' := ?_) #[true, true, true, true, true, true, true, true, true, true, true, false, false, false, false] rfl rfl (any_of HT_.out (by kernel_rfl)) (fun _ _ _ h => h) (Or.inr ⟨by rfl, rfl⟩) ?_ ?_
   rotate_left
   ·exact ZW
   refine pure_ (i := 11) (N := some 22) (v := undef) (a' := ?_) #[true, true, true, true, true, true, true, true, true, true, true, true, false, false, false] rfl rfl (any_of HT_.out (by kernel_rfl)) (fun _ _ _ h => h) (Or.inr ⟨by rfl, rfl⟩) ?_ ?_
   rotate_left
   ·exact ZW
   refine Zpt 12 (some 23) (h := ?_)
   refine one_ (i := 13) (N := some 24) #[true, true, true, true, true, true, true, true, true, true, true, true, true, true, false] rfl rfl (one_of HT_.out (by kernel_rfl)) (by decide) (fun K hK => ?_)
   refine goes_ Try.func58 (by kernel_rfl) rfl #[.agg #[.int .i64 a0_0, .slice A0_1 l0_1.length c0_1, .slice A0_2 l0_2.length c0_2], .bool false] (by rfl) rfl rfl ZA ?_
   with_reducible refine (impl_jacobiCode.calls k a0_0 _ _ l0_1 _ _ l0_2 false t840 _ ?side1 ?side2 ?side3 ?side4 A16.out).mono ?_
   (case side1 => exact ZE HR0_1)
   (case side2 => exact HC0_1.out)
   (case side3 => exact ZE HR0_2)
   (case side4 => exact HC0_2.out)
   rintro e w19 ⟨rfl, hb⟩
   refine ⟨_, rfl, ?_⟩
   have n0_ := ZL BK834 hb
   have n1_ := Aside0.mk (below_step ZB hb)
   clear BK834
   clear HB
   have BK834 := n0_
   have HB := n1_
   clear n0_ n1_
   (try clear hb)
   (try clear hb2)
   (try clear hk)
   (try clear hi)
   refine hK.out _ _ ⟨(blk_cell BK834.out 0).trans rfl, (blk_cell BK834.out 1).trans rfl, (blk_cell BK834.out 2).trans rfl⟩ (fun hHeld => ?_)
   clear hK K
   refine norm_ (a' := ?_) ?_ ?_
   rotate_left
   ·show Act.put _ (some 24) _ = _
    simp only [Act.put, List.setIfInBounds_toArray, List.set_cons_zero, List.set_cons_succ, i64_w, i32_w]
    rfl
   refine Zpt 14 (some 8) (h := ?_)
   refine done_ (done_of HT_.out (by kernel_rfl)) ?_
   try go_wp2
   go_meet
   case rel => exact ⟨_, (t840), (by first | rfl | (simp; done) | (simp [*]; done)), H', ⟨by first | omega | exact Nat.le_refl _⟩, ⟨ZK BK834⟩, ⟨ZB⟩⟩
 case rest =>
  clear HC4
  try clear p2
  try clear c3
  try clear c5
  try clear p6
  try clear c7
  try clear c8
  obtain ⟨kq, x8_3, rfl, HA, HJ3, BK834, HB⟩ := hcut
  cases kq with
  | zero => exact absurd HA.out (by simp [impl_ExpandProduct.j0])
  | succ kj3 =>
   have H := HA.out
   clear HA
   simp only [impl_ExpandProduct.j0] at H
   by_cases c20 : x8_3 = 0
   ·rw [if_pos c20] at H
    have c20b0 : (x8_3 == 0) = true := beq_iff_eq.mpr c20
    have c20b1 : (x8_3 != 0) = false := bne_eq_false_iff_eq.mpr c20
    clear c20
    replace H := Option.bind_eq_some_iff.mp H
    obtain ⟨t841, A210, H⟩ := H
    replace H : ((impl_Jacobi_polys.f kj3 a0_0 l0_1 l0_2).bind fun t842 => (if 0 ≤ a1 then (if a1 < (t842.length : Int) then (if 0 ≤ a2 then (if a2 < (t842.length : Int) then ((impl_field_product.f kj3 t841 (rd_L1 t842 a1) (rd_L1 t842 a2)).bind fun t847 => ((impl_field_expand.f kj3 t841 t847 t842).bind fun t850 => (some (t850, 0)))) else (none)) else (none)) else (none)) else (none))) = some (r1, r2) := H
    have A21 := Aside0.mk A210
    clear A210
    replace H := Option.bind_eq_some_iff.mp H
    obtain ⟨t842, A220, H⟩ := H
    replace H : (if 0 ≤ a1 then (if a1 < (t842.length : Int) then (if 0 ≤ a2 then (if a2 < (t842.length : Int) then ((impl_field_product.f kj3 t841 (rd_L1 t842 a1) (rd_L1 t842 a2)).bind fun t847 => ((impl_field_expand.f kj3 t841 t847 t842).bind fun t850 => (some (t850, 0)))) else (none)) else (none)) else (none)) else (none)) = some (r1, r2) := H
    have A22 := Aside0.mk A220
    clear A220
    by_cases c23 : 0 ≤ a1
    ·rw [if_pos c23] at H
     have c23b0 : decide (0 ≤ a1) = true := decide_eq_true c23
     clear c23
     by_cases c24 : a1 < (t842.length : Int)
     ·rw [if_pos c24] at H
      have c24b0 : decide (a1 < (t842.length : Int)) = true := decide_eq_true c24
      clear c24
      by_cases c25 : 0 ≤ a2
      ·rw [if_pos c25] at H
       have c25b0 : decide (0 ≤ a2) = true := decide_eq_true c25
       clear c25
       by_cases c26 : a2 < (t842.length : Int)
       ·rw [if_pos c26] at H
        have c26b0 : decide (a2 < (t842.length : Int)) = true := decide_eq_true c26
        clear c26
        replace H := Option.bind_eq_some_iff.mp H
        obtain ⟨t847, A270, H⟩ := H
        replace H : ((impl_field_expand.f kj3 t841 t847 t842).bind fun t850 => (some (t850, 0))) = some (r1, r2) := H
        have A27 := Aside0.mk A270
        clear A270
        replace H := Option.bind_eq_some_iff.mp H
        obtain ⟨t850, A280, H⟩ := H
        replace H : (some (t850, 0)) = some (r1, r2) := H
        have A28 := Aside0.mk A280
        clear A280
        simp only [Option.some.injEq, Prod.mk.injEq] at H
        obtain ⟨rfl, rfl⟩ := H
        try go_wp2
        have n0_ := Aside0.mk (blk_drew BK834.out)
        have n1_ := Aside0.mk (below_drew1 HB.out)
        clear BK834
        clear HB
        have BK834 := n0_
        have HB := n1_
        clear n0_ n1_
        refine start_ (n := 6) (S := fun w' => w'.cell? ⟨gb834, 0, none⟩ = some (.int .i64 a0_0) ∧ w'.cell? ⟨gb834, 1, none⟩ = some (.slice A0_1 l0_1.length c0_1) ∧ w'.cell? ⟨gb834, 2, none⟩ = some (.slice A0_2 l0_2.length c0_2)) (ds := []) #[false, false, false, false, false, false] (by kernel_rfl) rfl rfl ⟨(blk_cell BK834.out 0).trans rfl, (blk_cell BK834.out 1).trans rfl, (blk_cell BK834.out 2).trans rfl⟩ (fun hHeld => ?_)
        generalize wc.drew = w29 at BK834 HB hHeld ⊢
        refine Zt3 0 (some 28) hHeld (h := ?_)
        refine Zt3 2 (some 30) hHeld (h := ?_)
        refine one_ (i := 1) (N := some 29) #[true, true, true, false, false, false] rfl rfl (by kernel_rfl) (by decide) (fun K hK => ?_)
        refine goes_ Try.func64 (by kernel_rfl) rfl #[.agg #[.int .i64 a0_0, .slice A0_1 l0_1.length c0_1, .slice A0_2 l0_2.length c0_2]] (by rfl) rfl rfl ZA ?_
        with_reducible refine (impl_Jacobi_field.calls a0_0 _ _ l0_1 _ _ l0_2 t841 _ ?side1 ?side2 ?side3 ?side4 A21.out).mono ?_
        (case side1 => exact ZC HR0_1)
        (case side2 => exact HC0_1.out)
        (case side3 => exact ZC HR0_2)
        (case side4 => exact HC0_2.out)
        rintro e w30 ⟨rfl, hb⟩
        refine ⟨_, rfl, ?_⟩
        have n0_ := ZL BK834 hb
        have n1_ := Aside0.mk (below_step ZB hb)
        clear BK834
        clear HB
        have BK834 := n0_
        have HB := n1_
        clear n0_ n1_
        (try clear hb)
        (try clear hb2)
        (try clear hk)
        (try clear hi)
        refine hK.out _ _ ⟨(blk_cell BK834.out 0).trans rfl, (blk_cell BK834.out 1).trans rfl, (blk_cell BK834.out 2).trans rfl⟩ (fun hHeld => ?_)
        clear hK K
        refine norm_ (a' := ?_) ?_ ?_
        rotate_left
        ·show Act.put _ (some 29) _ = _
         simp only [Act.put, List.setIfInBounds_toArray, List.set_cons_zero, List.set_cons_succ, i64_w, i32_w]
         rfl
        refine one_ (i := 3) (N := some 31) #[true, true, true, true, false, false] rfl rfl (by kernel_rfl) (by decide) (fun K hK => ?_)
        refine goes_ Try.func73 (by kernel_rfl) rfl #[.agg #[.int .i64 a0_0, .slice A0_1 l0_1.length c0_1, .slice A0_2 l0_2.length c0_2]] (by rfl) rfl rfl ZA ?_
        with_reducible refine (impl_Jacobi_polys.calls kj3 a0_0 _ _ l0_1 _ _ l0_2 t842 _ ?side1 ?side2 ?side3 ?side4 A22.out).mono ?_
        (case side1 => exact ZC HR0_1)
        (case side2 => exact HC0_1.out)
        (case side3 => exact ZC HR0_2)
        (case side4 => exact HC0_2.out)
        rintro e w31 ⟨v843, rfl, ho0, hb⟩
        refine ⟨_, rfl, ?_⟩
        have n0_ := Aside0.mk (Kd.N_lower (Kd.N_mono (ok' := fun k_ => k_ ≠ gb834) ho0 (fun k_ hk_ => (Kd.freshB (ZK BK834) k_ hk_))) (below_size ZB))
        have n1_ := ZL BK834 hb
        have n2_ := Aside0.mk (below_step ZB hb)
        clear BK834
        clear HB
        have HO844 := n0_
        have BK834 := n1_
        have HB := n2_
        clear n0_ n1_ n2_
        (try clear hb)
        (try clear hb2)
        (try clear hk)
        (try clear hi)
        (try clear ho0)
        refine hK.out _ _ ⟨(blk_cell BK834.out 0).trans rfl, (blk_cell BK834.out 1).trans rfl, (blk_cell BK834.out 2).trans rfl⟩ (fun hHeld => ?_)
        clear hK K
        refine norm_ (a' := ?_) ?_ ?_
        rotate_left
        ·show Act.put _ (some 31) _ = _
         simp only [Act.put, List.setIfInBounds_toArray, List.set_cons_zero, List.set_cons_succ, i64_w, i32_w]
         rfl
        refine Zp 4 (some 9) (h := ?_)
        refine Zp 5 (some 10) (h := ?_)
        refine done_ (by kernel_rfl) ?_
        try go_wp2
        have n0_ := Aside0.mk (Kd.N_drew HO844.out)
        have n1_ := Aside0.mk (blk_drew BK834.out)
        have n2_ := Aside0.mk (below_drew1 HB.out)
        clear HO844
        clear BK834
        clear HB
        have HO844 := n0_
        have BK834 := n1_
        have HB := n2_
        clear n0_ n1_ n2_
        obtain ⟨Ao33, co33, eo33⟩ := Kd.N_slice HO844.out
        (first | subst eo33 | (injection eo33 with f1_ f2_ f3_; have f4_ := f1_.symm; have f5_ := f3_.symm; clear f1_ f2_ f3_; subst f4_; subst f5_))
        have p845 : 0 ≤ (a1 : Int) := of_decide_eq_true (by first | (with_reducible assumption) | assumption)
        have q845 : a1 < (t842.length : Int) := of_decide_eq_true (by first | (with_reducible assumption) | assumption)
        obtain ⟨ad845, A845_0, c845_0, e845, hx845_0, hl845_0, hi845_0⟩ := at_L1 (Kd.N_reads' HO844.out).2.2 a1 p845 q845
        cases e845
        obtain ⟨ce845, hce845, hMe845, hcc845⟩ := Kd.N_get HO844.out [] a1 p845 (by first | exact q845 | exact of_decide_eq_true (by first | (with_reducible assumption) | assumption) | (have e_ := (Kd.N_reads' HO844.out).1; omega))
        obtain ⟨ua845_0, uc845_0, rfl, ul845_0, ge845_0⟩ := Kd.FK_slice_open hMe845
        have hv845_0 := hcc845 0 _ rfl
        rw [Nat.add_zero, show ((Kd.slice 2 (Kd.int .i64))).sz = 1 from rfl, Nat.mul_one] at hv845_0
        replace hv845_0 := Option.some.inj (hv845_0.symm.trans hx845_0)
        injection hv845_0 with hva_ hvn_ hvc_
        rw [hva_] at ge845_0
        rw [hvc_] at ul845_0
        have HL845_0 := Aside0.mk (show Kd.V (Kd.int .i64) 2 _ w.heap.size _ _ (rd_L1 t842 a1) from Kd.V_mk ul845_0 ge845_0)
        clear hva_ hvn_ hvc_ ge845_0 ul845_0
        clear hcc845 hce845
        have HR845_0 := Aside0.mk hi845_0
        have HC845_0 := Aside0.mk hl845_0
        clear hi845_0 hl845_0
        replace p845 := eq_true p845
        replace q845 := eq_true q845
        have p846 : 0 ≤ (a2 : Int) := of_decide_eq_true (by first | (with_reducible assumption) | assumption)
        have q846 : a2 < (t842.length : Int) := of_decide_eq_true (by first | (with_reducible assumption) | assumption)
        obtain ⟨ad846, A846_0, c846_0, e846, hx846_0, hl846_0, hi846_0⟩ := at_L1 (Kd.N_reads' HO844.out).2.2 a2 p846 q846
        obtain rfl : ad845 = ad846 := (by injection e846)
        obtain ⟨ce846, hce846, hMe846, hcc846⟩ := Kd.N_get HO844.out [] a2 p846 (by first | exact q846 | exact of_decide_eq_true (by first | (with_reducible assumption) | assumption) | (have e_ := (Kd.N_reads' HO844.out).1; omega))
        obtain ⟨ua846_0, uc846_0, rfl, ul846_0, ge846_0⟩ := Kd.FK_slice_open hMe846
        have hv846_0 := hcc846 0 _ rfl
        rw [Nat.add_zero, show ((Kd.slice 2 (Kd.int .i64))).sz = 1 from rfl, Nat.mul_one] at hv846_0
        replace hv846_0 := Option.some.inj (hv846_0.symm.trans hx846_0)
        injection hv846_0 with hva_ hvn_ hvc_
        rw [hva_] at ge846_0
        rw [hvc_] at ul846_0
        have HL846_0 := Aside0.mk (show Kd.V (Kd.int .i64) 2 _ w.heap.size _ _ (rd_L1 t842 a2) from Kd.V_mk ul846_0 ge846_0)
        clear hva_ hvn_ hvc_ ge846_0 ul846_0
        clear hcc846 hce846
        have HR846_0 := Aside0.mk hi846_0
        have HC846_0 := Aside0.mk hl846_0
        clear hi846_0 hl846_0
        replace p846 := eq_true p846
        replace q846 := eq_true q846
        refine start_ (n := 15) (S := fun w' => w'.cell? (ad845.add (a1).toNat) = some (.slice A845_0 (rd_L1 t842 a1).length c845_0) ∧ w'.cell? (ad845.add (a2).toNat) = some (.slice A846_0 (rd_L1 t842 a2).length c846_0)) (ds := []) #[false, false, false, false, false, false, false, false, false, false, false, false, false, false, false] (by kernel_rfl) rfl rfl ⟨hx845_0, hx846_0⟩ (fun hHeld => ?_); refine with_tabW impl_ExpandProduct.tab5 impl_ExpandProduct.bits5 (fun HT_ HW_ => ?_)
        generalize w31.drew = w32 at HO844 BK834 HB HL845_0 HL846_0 HR845_0 HR846_0 hx845_0 hx846_0 hHeld ⊢
        refine Zpt 0 (some 32) (h := ?_)
        refine Zpt 1 (some 33) (h := ?_)
        refine Zpt 2 (some 34) (h := ?_)
        refine Zpt 3 (some 35) (h := ?_)
        refine Zpt 4 (some 36) (h := ?_)
        refine Zpt 6 (some 38) (h := ?_)
        refine Zpt 7 (some 39) (h := ?_)
        refine Zpt 8 (some 40) (h := ?_)
        refine Zpt 11 (some 43) (h := ?_)
        refine ZtW2 5 (some 37) hHeld (h := ?_)
        refine ZtW2 9 (some 41) hHeld (h := ?_)
        refine one_ (i := 10) (N := some 42) #[true, true, true, true, true, true, true, true, true, true, true, true, false, false, false] rfl rfl (one_of HT_.out (by kernel_rfl)) (by decide) (fun K hK => ?_)
        refine goes_ Try.func78 (by kernel_rfl) rfl #[.int .i64 t841, .slice A845_0 (rd_L1 t842 a1).length c845_0, .slice A846_0 (rd_L1 t842 a2).length c846_0] (by rfl) rfl rfl ZA ?_
        with_reducible refine (impl_field_product.calls kj3 t841 _ _ (rd_L1 t842 a1) _ _ (rd_L1 t842 a2) t847 _ ?side1 ?side2 ?side3 ?side4 A27.out).mono ?_
        (case side1 => repeat (first | exact (by repeat (first | (with_reducible exact HR845_0.out) | (with_reducible refine Kd.C_alloc ?_ _) | (with_reducible refine Kd.C_drewN ?_ _) | (with_reducible refine Kd.C_drew ?_) | exact HR845_0.out)) | (with_reducible refine Kd.C_alloc ?_ _) | (with_reducible refine Kd.C_drewN ?_ _) | (with_reducible refine Kd.C_drew ?_)))
        (case side2 => exact HC845_0.out)
        (case side3 => repeat (first | exact (by repeat (first | (with_reducible exact HR846_0.out) | (with_reducible refine Kd.C_alloc ?_ _) | (with_reducible refine Kd.C_drewN ?_ _) | (with_reducible refine Kd.C_drew ?_) | exact HR846_0.out)) | (with_reducible refine Kd.C_alloc ?_ _) | (with_reducible refine Kd.C_drewN ?_ _) | (with_reducible refine Kd.C_drew ?_)))
        (case side4 => exact HC846_0.out)
        rintro e w34 ⟨v848, rfl, ho0, hb⟩
        have HS0_ := (hb.cell (World.block_lt_of_cell? _ _ (hHeld.1))).trans (hHeld.1)
        have HS1_ := (hb.cell (World.block_lt_of_cell? _ _ (hHeld.2))).trans (hHeld.2)
        refine ⟨_, rfl, ?_⟩
        have n0_ := Aside0.mk (Kd.N_elder' (by (with_reducible repeat (first | apply Kd.N_alloc | apply Kd.N_drewN | apply Kd.N_drew)); exact HO844.out) (Kd.R_base ho0) hb)
        have n1_ := Aside0.mk (Kd.V_elder' (by (with_reducible repeat (first | apply Kd.V_alloc | apply Kd.V_drewN | apply Kd.V_drew)); exact HL845_0.out) (Kd.R_base ho0) hb)
        have n2_ := Aside0.mk (Kd.V_elder' (by (with_reducible repeat (first | apply Kd.V_alloc | apply Kd.V_drewN | apply Kd.V_drew)); exact HL846_0.out) (Kd.R_base ho0) hb)
        have n3_ := Aside0.mk (Kd.R_lower ho0 (below_size ZB))
        have n4_ := ZL BK834 hb
        have n5_ := Aside0.mk (Kd.C_below (by repeat (first | (with_reducible exact HR845_0.out) | (with_reducible refine Kd.C_alloc ?_ _) | (with_reducible refine Kd.C_drewN ?_ _) | (with_reducible refine Kd.C_drew ?_) | exact HR845_0.out)) hb)
        have n6_ := Aside0.mk (Kd.C_below (by repeat (first | (with_reducible exact HR846_0.out) | (with_reducible refine Kd.C_alloc ?_ _) | (with_reducible refine Kd.C_drewN ?_ _) | (with_reducible refine Kd.C_drew ?_) | exact HR846_0.out)) hb)
        have n7_ := Aside0.mk (below_step ZB hb)
        clear HO844
        clear HL845_0
        clear HL846_0
        clear BK834
        clear HR845_0
        clear HR846_0
        clear HB
        have HO844 := n0_
        have HL845_0 := n1_
        have HL846_0 := n2_
        have HO849 := n3_
        have BK834 := n4_
        have HR845_0 := n5_
        have HR846_0 := n6_
        have HB := n7_
        clear n0_ n1_ n2_ n3_ n4_ n5_ n6_ n7_
        (try clear hb)
        (try clear hb2)
        (try clear hk)
        (try clear hi)
        (try clear ho0)
        obtain ⟨Ao35, co35, eo35⟩ := Kd.R_slice HO849.out
        (first | subst eo35 | (injection eo35 with f1_ f2_ f3_; have f4_ := f1_.symm; have f5_ := f3_.symm; clear f1_ f2_ f3_; subst f4_; subst f5_))
        refine hK.out _ _ ⟨HS0_, HS1_⟩ (fun hHeld => ?_)
        clear hK K
        refine norm_ (a' := ?_) ?_ ?_
        rotate_left
        ·show Act.put _ (some 42) _ = _
         simp only [Act.put, List.setIfInBounds_toArray, List.set_cons_zero, List.set_cons_succ, i64_w, i32_w]
         rfl
        refine one_ (i := 12) (N := some 44) #[true, true, true, true, true, true, true, true, true, true, true, true, true, false, false] rfl rfl (one_of HT_.out (by kernel_rfl)) (by decide) (fun K hK => ?_)
        refine goes_ Try.func72 (by kernel_rfl) rfl #[.int .i64 t841, .slice Ao35 t847.length co35, .slice (some ad845) t842.length co33] (by rfl) rfl rfl ZA ?_
        with_reducible refine (impl_field_expand.calls kj3 t841 (fun k_ => some k_ = (.slice Ao35 t847.length co35 : Value).ownBlock) _ _ t847 _ _ t842 t850 _ ?side1 ?side2 ?side3 A28.out).mono ?_
        (case side1 => exact Kd.R_V (Kd.R_tight rfl (Kd.R_types (Kd.R_apart' (HO849.out) (Kd.N_typed HO844.out) (by decide)) BK834.out (by decide))))
        (case side2 => repeat (first | exact (Kd.N_reads' HO844.out).2.2 | (with_reducible refine Kd.C_alloc ?_ _) | (with_reducible refine Kd.C_drewN ?_ _) | (with_reducible refine Kd.C_drew ?_)))
        (case side3 => exact (Kd.N_reads' HO844.out).2.1)
        rintro e w36 ⟨v851, rfl, ho0, hb⟩
        have HS0_ := (hb.cell (World.block_lt_of_cell? _ _ (hHeld.1))).trans (hHeld.1)
        have HS1_ := (hb.cell (World.block_lt_of_cell? _ _ (hHeld.2))).trans (hHeld.2)
        refine ⟨_, rfl, ?_⟩
        have n0_ := Aside0.mk (Kd.N_elder' (by (with_reducible repeat (first | apply Kd.N_alloc | apply Kd.N_drewN | apply Kd.N_drew)); exact HO844.out) (Kd.R_base ho0) hb)
        have n1_ := Aside0.mk (Kd.V_elder' (by (with_reducible repeat (first | apply Kd.V_alloc | apply Kd.V_drewN | apply Kd.V_drew)); exact HL845_0.out) (Kd.R_base ho0) hb)
        have n2_ := Aside0.mk (Kd.V_elder' (by (with_reducible repeat (first | apply Kd.V_alloc | apply Kd.V_drewN | apply Kd.V_drew)); exact HL846_0.out) (Kd.R_base ho0) hb)
        have n3_ := Aside0.mk (Kd.R_elder' (ZR HO849) (Kd.R_base ho0) hb)
        have n4_ := Aside0.mk (Kd.R_lower (Kd.R_new' (Kd.R_mono (ok' := fun k_ => True) ho0 (fun _ hk_ => trivial)) (Kd.R_lt (ZR HO849))) (below_size ZB))
        have n5_ := ZL BK834 hb
        have n6_ := Aside0.mk (Kd.C_below (by repeat (first | (with_reducible exact HR845_0.out) | (with_reducible refine Kd.C_alloc ?_ _) | (with_reducible refine Kd.C_drewN ?_ _) | (with_reducible refine Kd.C_drew ?_) | exact HR845_0.out)) hb)
        have n7_ := Aside0.mk (Kd.C_below (by repeat (first | (with_reducible exact HR846_0.out) | (with_reducible refine Kd.C_alloc ?_ _) | (with_reducible refine Kd.C_drewN ?_ _) | (with_reducible refine Kd.C_drew ?_) | exact HR846_0.out)) hb)
        have n8_ := Aside0.mk (below_step ZB hb)
        clear HO844
        clear HL845_0
        clear HL846_0
        clear HO849
        clear BK834
        clear HR845_0
        clear HR846_0
        clear HB
        have HO844 := n0_
        have HL845_0 := n1_
        have HL846_0 := n2_
        have HO849 := n3_
        have HO852 := n4_
        have BK834 := n5_
        have HR845_0 := n6_
        have HR846_0 := n7_
        have HB := n8_
        clear n0_ n1_ n2_ n3_ n4_ n5_ n6_ n7_ n8_
        (try clear hb)
        (try clear hb2)
        (try clear hk)
        (try clear hi)
        (try clear ho0)
        refine hK.out _ _ ⟨HS0_, HS1_⟩ (fun hHeld => ?_)
        clear hK K
        refine norm_ (a' := ?_) ?_ ?_
        rotate_left
        ·show Act.put _ (some 44) _ = _
         simp only [Act.put, List.setIfInBounds_toArray, List.set_cons_zero, List.set_cons_succ, i64_w, i32_w]
         rfl
        refine Zpt 13 (some 6) (h := ?_)
        refine Zpt 14 (some 7) (h := ?_)
        refine done_ (done_of HT_.out (by kernel_rfl)) ?_
        try go_wp2
        go_ret2
        exact ⟨_, by first | rfl | (simp [errW_none, errW_some] <;> rfl) | (simp [*, errW_none, errW_some] <;> rfl), by refine ZQ ?_; exact Kd.R_mono HO852.out (fun _ hk => trivial), ZB⟩
       ·rw [if_neg c26] at H
        exact absurd H (by simp)
      ·rw [if_neg c25] at H
       exact absurd H (by simp)
     ·rw [if_neg c24] at H
      exact absurd H (by simp)
    ·rw [if_neg c23] at H
     exact absurd H (by simp)
   ·rw [if_neg c20] at H
    have c20b0 : (x8_3 == 0) = false := beq_eq_false_iff_ne.mpr c20
    have c20b1 : (x8_3 != 0) = true := bne_iff_ne.mpr c20
    simp only [Option.some.injEq, Prod.mk.injEq] at H
    obtain ⟨rfl, rfl⟩ := H
    go_wp2
    go_ret2
    exact ⟨_, by first | rfl | (simp [errW_none, errW_some] <;> rfl) | (simp [*, errW_none, errW_some] <;> rfl), by first | exact Kd.R_nil _ _ _ _ _ | exact Kd.N_nil _ _ _ _ _ | exact Kd.V_nil _ _ _ _ _ | exact Kd.Q_nil _ _ _ _ _ | exact Kd.S_nil _ _ _ _ _, ZB⟩

end Go.Proofs.Ytaclapojgdekpaa.X
