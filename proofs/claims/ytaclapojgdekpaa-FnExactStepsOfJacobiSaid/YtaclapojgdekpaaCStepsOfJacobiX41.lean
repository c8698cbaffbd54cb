/- Contracts of functions that the law reaches, printed by a program of this session; Lean checks them. -/
import Derived.Test.YtaclapojgdekpaaCStepsOfJacobiX0
import Derived.Test.YtaclapojgdekpaaCStepsOfJacobiX14
import Derived.Test.YtaclapojgdekpaaCStepsOfJacobiX40
import Derived.Test.YtaclapojgdekpaaCStepsOfJacobiX5
import Derived.Test.YtaclapojgdekpaaCStepsOfJacobiX7
import Derived.Test.YtaclapojgdekpaaCStepsOfJacobiXZ
namespace Go.Proofs.Ytaclapojgdekpaa.X
open Go.RowKit Go.Proofs.YtaclapojgdekpaaW.PrintWords Go.Proofs.YtaclapojgdekpaaW.PrintLast Go.Proofs.YtaclapojgdekpaaW.PrintMore
attribute [local go_sem] max2_int min2_int max_two min_two max_three min_three max_four min_four   -- for this text's walks alone
set_option linter.unusedVariables false
set_option linter.unusedSimpArgs false

/-! ### impl_StepsOfJacobi: function 45 -/
mutual
def impl_StepsOfJacobi.j0 : Nat → Int → Int → Int → Int → List Int → List Int → Option ((List (S29)) × Int)
 | 0, _, _, _, _, _, _ => none
 | k + 1, x1, x2, x8, x1301000, x1301001, x1301002 => if x8 = 0 then ((impl_Jacobi_size.f x1301000 x1301001 x1301002).bind fun t1306 => ((impl_Jacobi_part.f x1301000 x1301001 x1301002 0 t1306).bind fun bt1307 => (impl_StepsOfJacobi.l0 k x1 (([(⟨bt1307.1, bt1307.2.1, bt1307.2.2⟩ : S29)] : List (S29))) x2 0))) else (some (([] : List (S29)), x8))
def impl_StepsOfJacobi.l0 : Nat → Int → List (S29) → Int → Int → Option ((List (S29)) × Int)
 | 0, _, _, _, _ => none
 | k + 1, x1, x9, x31, x32 => if x32 < x31 then (if 0 ≤ x32 then (if x32 < (x9.length : Int) then ((impl_Jacobi_step.f k ((rd_T29 x9 x32).f0) ((rd_T29 x9 x32).f1) ((rd_T29 x9 x32).f2) x1).bind fun bt1318 => (if bt1318.2.2.2 = true then (if x9.length < 2513169434916 then (impl_StepsOfJacobi.l0 k x1 (x9 ++ [(⟨bt1318.1, bt1318.2.1, bt1318.2.2.1⟩ : S29)]) x31 (wrap64 (x32 + 1))) else (none)) else (some (([] : List (S29)), 5)))) else (none)) else (none)) else (some (x9, 0))
end
def impl_StepsOfJacobi.f (k : Nat) (a0_0 : Int) (l0_1 : List Int) (l0_2 : List Int) (a1 : Int) (a2 : Int) : Option ((List (S29)) × Int) := (impl_Jacobi_field.f a0_0 l0_1 l0_2).bind fun t1301 => ((impl_field_has.f t1301 a1).bind fun t1302 => (if t1302 = true then ((impl_within.f a2 0 12).bind fun t1303 => ((impl_jacobiCode.f k a0_0 l0_1 l0_2 t1303).bind fun t1304 => (impl_StepsOfJacobi.j0 k a1 a2 t1304 a0_0 l0_1 l0_2))) else ((impl_jacobiCode.f k a0_0 l0_1 l0_2 false).bind fun t1305 => (impl_StepsOfJacobi.j0 k a1 a2 t1305 a0_0 l0_1 l0_2))))
theorem impl_StepsOfJacobi.mono_l : ∀ k, (∀ y0 y1 y2 y3 y4 y5, LeO (impl_StepsOfJacobi.j0 k y0 y1 y2 y3 y4 y5) (impl_StepsOfJacobi.j0 (k + 1) y0 y1 y2 y3 y4 y5)) ∧ (∀ y0 y1 y2 y3, LeO (impl_StepsOfJacobi.l0 k y0 y1 y2 y3) (impl_StepsOfJacobi.l0 (k + 1) y0 y1 y2 y3))
 | 0 => ⟨fun _ _ _ _ _ _ r h => by simp [impl_StepsOfJacobi.j0] at h, fun _ _ _ _ r h => by simp [impl_StepsOfJacobi.l0] at h⟩
 | k + 1 => by
  obtain ⟨ih0, ih1⟩ := impl_StepsOfJacobi.mono_l k
  refine ⟨?_, ?_⟩
  ·intro y0 y1 y2 y3 y4 y5
   unfold impl_StepsOfJacobi.j0
   repeat' first
   | (with_reducible exact ih0 _ _ _ _ _ _)
   | (with_reducible exact ih1 _ _ _ _)
   | (with_reducible exact impl_Jacobi_step.mono _ _ _ _ _)
   | (with_reducible exact impl_jacobiCode.mono _ _ _ _ _)
   | (with_reducible exact LeO.refl _)
   | (with_reducible exact LeO.none _)
   | (with_reducible refine LeO.ite ?_ ?_)
   | (with_reducible refine LeO.bind ?_ (fun _ => ?_))
   | exact ih0 _ _ _ _ _ _
   | exact ih1 _ _ _ _
   | exact impl_Jacobi_step.mono _ _ _ _ _
   | exact impl_jacobiCode.mono _ _ _ _ _
   | exact LeO.none _
   | refine LeO.ite ?_ ?_
   | refine LeO.bind ?_ (fun _ => ?_)
  ·intro y0 y1 y2 y3
   unfold impl_StepsOfJacobi.l0
   repeat' first
   | (with_reducible exact ih0 _ _ _ _ _ _)
   | (with_reducible exact ih1 _ _ _ _)
   | (with_reducible exact impl_Jacobi_step.mono _ _ _ _ _)
   | (with_reducible exact impl_jacobiCode.mono _ _ _ _ _)
   | (with_reducible exact LeO.refl _)
   | (with_reducible exact LeO.none _)
   | (with_reducible refine LeO.ite ?_ ?_)
   | (with_reducible refine LeO.bind ?_ (fun _ => ?_))
   | exact ih0 _ _ _ _ _ _
   | exact ih1 _ _ _ _
   | exact impl_Jacobi_step.mono _ _ _ _ _
   | exact impl_jacobiCode.mono _ _ _ _ _
   | exact LeO.none _
   | refine LeO.ite ?_ ?_
   | refine LeO.bind ?_ (fun _ => ?_)
theorem impl_StepsOfJacobi.mono : ∀ a0 a1 a2 a3 a4 k, LeO (impl_StepsOfJacobi.f k a0 a1 a2 a3 a4) (impl_StepsOfJacobi.f (k + 1) a0 a1 a2 a3 a4) := by
 intro a0 a1 a2 a3 a4 k
 obtain ⟨ih0, ih1⟩ := impl_StepsOfJacobi.mono_l k
 unfold impl_StepsOfJacobi.f
 repeat' first
   | (with_reducible exact ih0 _ _ _ _ _ _)
   | (with_reducible exact ih1 _ _ _ _)
   | (with_reducible exact impl_Jacobi_step.mono _ _ _ _ _)
   | (with_reducible exact impl_jacobiCode.mono _ _ _ _ _)
   | (with_reducible exact LeO.refl _)
   | (with_reducible exact LeO.none _)
   | (with_reducible refine LeO.ite ?_ ?_)
   | (with_reducible refine LeO.bind ?_ (fun _ => ?_))
   | exact ih0 _ _ _ _ _ _
   | exact ih1 _ _ _ _
   | exact impl_Jacobi_step.mono _ _ _ _ _
   | exact impl_jacobiCode.mono _ _ _ _ _
   | exact LeO.none _
   | refine LeO.ite ?_ ?_
   | refine LeO.bind ?_ (fun _ => ?_)
def impl_StepsOfJacobi.T1 : Bool × List (List Nat × List Nat) := (true, [([], []), ([], []), ([1], [1]), ([], []), ([2, 3, 2], [2, 3]), ([4, 4], [4]), ([5], [5]), ([6, 5, 5], [5, 6]), ([5, 7], [5, 7]), ([0, 8, 7], [0, 8]), ([9, 9, 0, 1, 2, 3, 4, 5, 6, 7, 8, 9], [9])])
def impl_StepsOfJacobi.B1 : List Nat := [0, 0, 2, 0, 14, 30, 62, 126, 254, 511, 1023]
theorem impl_StepsOfJacobi.tab1 : rtab .any (opsOf Try.f45 1) = impl_StepsOfJacobi.T1 := by kernel_rfl
theorem impl_StepsOfJacobi.bits1 : waitsOk impl_StepsOfJacobi.T1.2 impl_StepsOfJacobi.B1 = true := by kernel_rfl
set_option maxHeartbeats 8000000 in
set_option maxRecDepth 100000 in
theorem impl_StepsOfJacobi.calls (k : Nat) (a0_0 : Int) (A0_1 : Option Addr) (c0_1 : Nat) (l0_1 : List Int) (A0_2 : Option Addr) (c0_2 : Nat) (l0_2 : List Int) (a1 : Int) (a2 : Int) (r1 : List (S29)) (r2 : Int) (w : World) (hr0_1 : Kd.C (Kd.int .i64) w A0_1 l0_1.length l0_1) (hc0_1 : l0_1.length ≤ c0_1) (hr0_2 : Kd.C (Kd.int .i64) w A0_2 l0_2.length l0_2) (hc0_2 : l0_2.length ≤ c0_2) (h : impl_StepsOfJacobi.f k a0_0 l0_1 l0_2 a1 a2 = some (r1, r2)) :
  Calls Try.prog 45 #[.agg #[.int .i64 a0_0, .slice A0_1 l0_1.length c0_1, .slice A0_2 l0_2.length c0_2], .int .i64 a1, .int .i64 a2] w fun e w' => ∃ v0_ : Value, e = .returned (.tuple #[v0_, .int .i64 r2]) ∧ Kd.N k29 29 w' w.heap.size (fun k_ => (w.heap.size ≤ k_)) v0_ r1 ∧ Below w.heap.size w w' := by
 have hu29 := Try.underlying29
 have HR0_1 := Aside0.mk hr0_1
 have HC0_1 := Aside0.mk hc0_1
 clear hr0_1 hc0_1
 have HR0_2 := Aside0.mk hr0_2
 have HC0_2 := Aside0.mk hc0_2
 clear hr0_2 hc0_2
 have HB := Aside0.mk (Below.refl w.heap.size w)
 have H : ((impl_Jacobi_field.f a0_0 l0_1 l0_2).bind fun t1301 => ((impl_field_has.f t1301 a1).bind fun t1302 => (if t1302 = true then ((impl_within.f a2 0 12).bind fun t1303 => ((impl_jacobiCode.f k a0_0 l0_1 l0_2 t1303).bind fun t1304 => (impl_StepsOfJacobi.j0 k a1 a2 t1304 a0_0 l0_1 l0_2))) else ((impl_jacobiCode.f k a0_0 l0_1 l0_2 false).bind fun t1305 => (impl_StepsOfJacobi.j0 k a1 a2 t1305 a0_0 l0_1 l0_2))))) = some (r1, r2) := h
 clear h
 have HC4 := Aside0.mk H
 clear H
 go_enter Try.func45, Try.ntmps45
 go_upto_region 1 with (first | ((with_reducible refine gate_dst (N := 3) rfl ?_); refine box_event ?hg (N := 3) ?hd (cs := #[.int .i64 a0_0, .slice A0_1 l0_1.length c0_1, .slice A0_2 l0_2.length c0_2]) (t := 29) ?hr ?_; (case hd => rfl); (case hg => rfl); (case hr => first | (go_simp; done) | (go_simp; rfl)); intro gb1300 hg w5 hbox hb; have n0_ := Aside0.mk (below_step ZB hb); have n1_ := Aside0.mk (hbox); have n2_ := Aside0.mk ((ZG hg : w.heap.size ≤ gb1300)); have n3_ := Aside0.mk ((ZG hg : w.heap.size ≤ gb1300)); clear HB; have HB := n0_; have BK1300 := n1_; have GW1300 := n2_; have GE1300 := n3_; clear n0_ n1_ n2_ n3_; clear hb hbox hg))
 (try simp only [Act.put, List.setIfInBounds_toArray, List.set_cons_zero, List.set_cons_succ])
 go_cut [8] (fun v8 wc => ∃ (kq : Nat) (x8_3 : Int), v8 = .int .i64 x8_3 ∧ Aside0 (impl_StepsOfJacobi.j0 kq a1 a2 x8_3 a0_0 l0_1 l0_2 = some (r1, r2)) ∧ Aside0 (kq ≤ k) ∧ Aside0 (wc.heap[gb1300]? = some (.cells #[.int .i64 a0_0, (.slice A0_1 l0_1.length c0_1), (.slice A0_2 l0_2.length c0_2)] 29 (0, 0))) ∧ Aside0 (Below w.heap.size w wc))
 case first =>
  have H := HC4.out
  clear HC4
  replace H := Option.bind_eq_some_iff.mp H
  obtain ⟨t1301, A60, H⟩ := H
  replace H : ((impl_field_has.f t1301 a1).bind fun t1302 => (if t1302 = true then ((impl_within.f a2 0 12).bind fun t1303 => ((impl_jacobiCode.f k a0_0 l0_1 l0_2 t1303).bind fun t1304 => (impl_StepsOfJacobi.j0 k a1 a2 t1304 a0_0 l0_1 l0_2))) else ((impl_jacobiCode.f k a0_0 l0_1 l0_2 false).bind fun t1305 => (impl_StepsOfJacobi.j0 k a1 a2 t1305 a0_0 l0_1 l0_2)))) = some (r1, r2) := H
  have A6 := Aside0.mk A60
  clear A60
  replace H := Option.bind_eq_some_iff.mp H
  obtain ⟨t1302, A70, H⟩ := H
  replace H : (if t1302 = true then ((impl_within.f a2 0 12).bind fun t1303 => ((impl_jacobiCode.f k a0_0 l0_1 l0_2 t1303).bind fun t1304 => (impl_StepsOfJacobi.j0 k a1 a2 t1304 a0_0 l0_1 l0_2))) else ((impl_jacobiCode.f k a0_0 l0_1 l0_2 false).bind fun t1305 => (impl_StepsOfJacobi.j0 k a1 a2 t1305 a0_0 l0_1 l0_2))) = some (r1, r2) := H
  have A7 := Aside0.mk A70
  clear A70
  by_cases c8 : t1302 = true
  ·subst c8
   have H1 : ((impl_within.f a2 0 12).bind fun t1303 => ((impl_jacobiCode.f k a0_0 l0_1 l0_2 t1303).bind fun t1304 => (impl_StepsOfJacobi.j0 k a1 a2 t1304 a0_0 l0_1 l0_2))) = some (r1, r2) := by rw [if_pos rfl] at H; exact H
   clear H
   have H := H1
   clear H1
   replace H := Option.bind_eq_some_iff.mp H
   obtain ⟨t1303, A90, H⟩ := H
   replace H : ((impl_jacobiCode.f k a0_0 l0_1 l0_2 t1303).bind fun t1304 => (impl_StepsOfJacobi.j0 k a1 a2 t1304 a0_0 l0_1 l0_2)) = some (r1, r2) := H
   have A9 := Aside0.mk A90
   clear A90
   replace H := Option.bind_eq_some_iff.mp H
   obtain ⟨t1304, A100, H⟩ := H
   replace H : (impl_StepsOfJacobi.j0 k a1 a2 t1304 a0_0 l0_1 l0_2) = some (r1, r2) := H
   have A10 := Aside0.mk A100
   clear A100
   have H' := Aside0.mk H
   clear H
   try go_wp2
   have n0_ := Aside0.mk (blk_drew BK1300.out)
   have n1_ := Aside0.mk (below_drew1 HB.out)
   clear BK1300
   clear HB
   have BK1300 := n0_
   have HB := n1_
   clear n0_ n1_
   refine start_ (n := 11) (S := fun w' => w'.cell? ⟨gb1300, 0, none⟩ = some (.int .i64 a0_0) ∧ w'.cell? ⟨gb1300, 1, none⟩ = some (.slice A0_1 l0_1.length c0_1) ∧ w'.cell? ⟨gb1300, 2, none⟩ = some (.slice A0_2 l0_2.length c0_2)) (ds := []) #[false, false, false, false, false, false, false, false, false, false, false] (by kernel_rfl) rfl rfl ⟨(blk_cell BK1300.out 0).trans rfl, (blk_cell BK1300.out 1).trans rfl, (blk_cell BK1300.out 2).trans rfl⟩ (fun hHeld => ?_); refine with_tabW impl_StepsOfJacobi.tab1 impl_StepsOfJacobi.bits1 (fun HT_ HW_ => ?_)
   generalize w5.drew = w11 at BK1300 HB hHeld ⊢
   refine Zpt 3 (some 16) (h := ?_)
   refine ZtW3 0 (some 13) hHeld (h := ?_)
   refine ZtW3 1 (some 14) hHeld (h := ?_)
   refine one_ (i := 2) (N := some 15) #[true, true, true, true, false, false, false, false, false, false, false] rfl rfl (one_of HT_.out (by kernel_rfl)) (by decide) (fun K hK => ?_)
   refine goes_ Try.func64 (by kernel_rfl) rfl #[.agg #[.int .i64 a0_0, .slice A0_1 l0_1.length c0_1, .slice A0_2 l0_2.length c0_2]] (by rfl) rfl rfl ZA ?_
   with_reducible refine (impl_Jacobi_field.calls a0_0 _ _ l0_1 _ _ l0_2 t1301 _ ?side1 ?side2 ?side3 ?side4 A6.out).mono ?_
   (case side1 => exact ZC HR0_1)
   (case side2 => exact HC0_1.out)
   (case side3 => exact ZC HR0_2)
   (case side4 => exact HC0_2.out)
   rintro e w12 ⟨rfl, hb⟩
   refine ⟨_, rfl, ?_⟩
   have n0_ := ZL BK1300 hb
   have n1_ := Aside0.mk (below_step ZB hb)
   clear BK1300
   clear HB
   have BK1300 := n0_
   have HB := n1_
   clear n0_ n1_
   (try clear hb)
   (try clear hb2)
   (try clear hk)
   (try clear hi)
   refine hK.out _ _ ⟨(blk_cell BK1300.out 0).trans rfl, (blk_cell BK1300.out 1).trans rfl, (blk_cell BK1300.out 2).trans rfl⟩ (fun hHeld => ?_)
   clear hK K
   refine norm_ (a' := ?_) ?_ ?_
   rotate_left
   ·show Act.put _ (some 15) _ = _
    simp only [Act.put, List.setIfInBounds_toArray, List.set_cons_zero, List.set_cons_succ, i64_w, i32_w]
    rfl
   refine one_ (i := 4) (N := some 17) #[true, true, true, true, true, false, false, false, false, false, false] rfl rfl (one_of HT_.out (by kernel_rfl)) (by decide) (fun K hK => ?_)
   refine goes_ Try.func65 (by kernel_rfl) rfl #[.int .i64 t1301, .int .i64 a1] (by rfl) rfl rfl ZA ?_
   with_reducible refine (impl_field_has.calls t1301 a1 true _ A7.out).mono ?_
   rintro e w' ⟨rfl, ⟨nd, rfl⟩⟩
   refine ⟨_, rfl, ?_⟩
   refine hK.out _ _ ⟨(blk_cell BK1300.out 0).trans rfl, (blk_cell BK1300.out 1).trans rfl, (blk_cell BK1300.out 2).trans rfl⟩ (fun hHeld => ?_)
   clear hK K
   refine norm_ (a' := ?_) ?_ ?_
   rotate_left
   ·show Act.put _ (some 17) _ = _
    simp only [Act.put, List.setIfInBounds_toArray, List.set_cons_zero, List.set_cons_succ, i64_w, i32_w]
    rfl
   refine Zpt 5 (some 18) (h := ?_)
   refine Zpt 6 (some 19) (h := ?_)
   refine one_ (i := 7) (N := some 20) #[true, true, true, true, true, true, true, true, false, false, false] rfl rfl (one_of HT_.out (by kernel_rfl)) (by decide) (fun K hK => ?_)
   refine goes_ Try.func76 (by kernel_rfl) rfl #[.int .i64 a2, .int .i64 0, .int .i64 12] (by rfl) rfl rfl ZA ?_
   with_reducible refine (impl_within.calls a2 0 12 t1303 _ A9.out).mono ?_
   rintro e w' ⟨rfl, ⟨nd, rfl⟩⟩
   refine ⟨_, rfl, ?_⟩
   refine hK.out _ _ ⟨(blk_cell BK1300.out 0).trans rfl, (blk_cell BK1300.out 1).trans rfl, (blk_cell BK1300.out 2).trans rfl⟩ (fun hHeld => ?_)
   clear hK K
   refine norm_ (a' := ?_) ?_ ?_
   rotate_left
   ·show Act.put _ (some 20) _ = _
    simp only [Act.put, List.setIfInBounds_toArray, List.set_cons_zero, List.set_cons_succ, i64_w, i32_w]
    rfl
   refine Zpt 8 (some 21) (h := ?_)
   refine one_ (i := 9) (N := some 22) #[true, true, true, true, true, true, true, true, true, true, false] rfl rfl (one_of HT_.out (by kernel_rfl)) (by decide) (fun K hK => ?_)
   refine goes_ Try.func58 (by kernel_rfl) rfl #[.agg #[.int .i64 a0_0, .slice A0_1 l0_1.length c0_1, .slice A0_2 l0_2.length c0_2], .bool t1303] (by rfl) rfl rfl ZA ?_
   with_reducible refine (impl_jacobiCode.calls k a0_0 _ _ l0_1 _ _ l0_2 t1303 t1304 _ ?side1 ?side2 ?side3 ?side4 A10.out).mono ?_
   (case side1 => exact ZE HR0_1)
   (case side2 => exact HC0_1.out)
   (case side3 => exact ZE HR0_2)
   (case side4 => exact HC0_2.out)
   rintro e w13 ⟨rfl, hb⟩
   refine ⟨_, rfl, ?_⟩
   have n0_ := ZL BK1300 hb
   have n1_ := Aside0.mk (below_step ZB hb)
   clear BK1300
   clear HB
   have BK1300 := n0_
   have HB := n1_
   clear n0_ n1_
   (try clear hb)
   (try clear hb2)
   (try clear hk)
   (try clear hi)
   refine hK.out _ _ ⟨(blk_cell BK1300.out 0).trans rfl, (blk_cell BK1300.out 1).trans rfl, (blk_cell BK1300.out 2).trans rfl⟩ (fun hHeld => ?_)
   clear hK K
   refine norm_ (a' := ?_) ?_ ?_
   rotate_left
   ·show Act.put _ (some 22) _ = _
    simp only [Act.put, List.setIfInBounds_toArray, List.set_cons_zero, List.set_cons_succ, i64_w, i32_w]
    rfl
   refine Zpt 10 (some 8) (h := ?_)
   refine done_ (done_of HT_.out (by kernel_rfl)) ?_
   try go_wp2
   go_meet
   case rel => exact ⟨_, (t1304), (by first | rfl | (simp; done) | (simp [*]; done)), H', ⟨by first | omega | exact Nat.le_refl _⟩, ⟨ZK BK1300⟩, ⟨ZB⟩⟩
  ·replace c8 := Bool.eq_false_iff.mpr c8
   subst c8
   have H1 : ((impl_jacobiCode.f k a0_0 l0_1 l0_2 false).bind fun t1305 => (impl_StepsOfJacobi.j0 k a1 a2 t1305 a0_0 l0_1 l0_2)) = some (r1, r2) := by rw [if_neg (show ¬ (false = true) by decide)] at H; exact H
   clear H
   have H := H1
   clear H1
   replace H := Option.bind_eq_some_iff.mp H
   obtain ⟨t1305, A140, H⟩ := H
   replace H : (impl_StepsOfJacobi.j0 k a1 a2 t1305 a0_0 l0_1 l0_2) = some (r1, r2) := H
   have A14 := Aside0.mk A140
   clear A140
   have H' := Aside0.mk H
   clear H
   try go_wp2
   have n0_ := Aside0.mk (blk_drew BK1300.out)
   have n1_ := Aside0.mk (below_drew1 HB.out)
   clear BK1300
   clear HB
   have BK1300 := n0_
   have HB := n1_
   clear n0_ n1_
   refine start_ (n := 11) (S := fun w' => w'.cell? ⟨gb1300, 0, none⟩ = some (.int .i64 a0_0) ∧ w'.cell? ⟨gb1300, 1, none⟩ = some (.slice A0_1 l0_1.length c0_1) ∧ w'.cell? ⟨gb1300, 2, none⟩ = some (.slice A0_2 l0_2.length c0_2)) (ds := []) #[false, false, false, false, false, false, false, false, false, false, false] (by kernel_rfl) rfl rfl ⟨(blk_cell BK1300.out 0).trans rfl, (blk_cell BK1300.out 1).trans rfl, (blk_cell BK1300.out 2).trans rfl⟩ (fun hHeld => ?_); refine with_tabW impl_StepsOfJacobi.tab1 impl_StepsOfJacobi.bits1 (fun HT_ HW_ => ?_)
   generalize w5.drew = w15 at BK1300 HB hHeld ⊢
   refine Zpt 3 (some 16) (h := ?_)
   refine ZtW3 0 (some 13) hHeld (h := ?_)
   refine ZtW3 1 (some 14) hHeld (h := ?_)
   refine one_ (i := 2) (N := some 15) #[true, true, true, true, false, false, false, false, false, false, false] rfl rfl (one_of HT_.out (by kernel_rfl)) (by decide) (fun K hK => ?_)
   refine goes_ Try.func64 (by kernel_rfl) rfl #[.agg #[.int .i64 a0_0, .slice A0_1 l0_1.length c0_1, .slice A0_2 l0_2.length c0_2]] (by rfl) rfl rfl ZA ?_
   with_reducible refine (impl_Jacobi_field.calls a0_0 _ _ l0_1 _ _ l0_2 t1301 _ ?side1 ?side2 ?side3 ?side4 A6.out).mono ?_
   (case side1 => exact ZC HR0_1)
   (case side2 => exact HC0_1.out)
   (case side3 => exact ZC HR0_2)
   (case side4 => exact HC0_2.out)
   rintro e w16 ⟨rfl, hb⟩
   refine ⟨_, rfl, ?_⟩
   have n0_ := ZL BK1300 hb
   have n1_ := Aside0.mk (below_step ZB hb)
   clear BK1300
   clear HB
   have BK1300 := n0_
   have HB := n1_
   clear n0_ n1_
   (try clear hb)
   (try clear hb2)
   (try clear hk)
   (try clear hi)
   refine hK.out _ _ ⟨(blk_cell BK1300.out 0).trans rfl, (blk_cell BK1300.out 1).trans rfl, (blk_cell BK1300.out 2).trans rfl⟩ (fun hHeld => ?_)
   clear hK K
   refine norm_ (a' := ?_) ?_ ?_
   rotate_left
   ·show Act.put _ (some 15) _ = _
    simp only [Act.put, List.setIfInBounds_toArray, List.set_cons_zero, List.set_cons_succ, i64_w, i32_w]
    rfl
   refine one_ (i := 4) (N := some 17) #[true, true, true, true, true, false, false, false, false, false, false] rfl rfl (one_of HT_.out (by kernel_rfl)) (by decide) (fun K hK => ?_)
   refine goes_ Try.func65 (by kernel_rfl) rfl #[.int .i64 t1301, .int .i64 a1] (by rfl) rfl rfl ZA ?_
   with_reducible refine (impl_field_has.calls t1301 a1 false _ A7.out).mono ?_
   rintro e w' ⟨rfl, ⟨nd, rfl⟩⟩
   refine ⟨_, rfl, ?_⟩
   refine hK.out _ _ ⟨(blk_cell BK1300.out 0).trans rfl, (blk_cell BK1300.out 1).trans rfl, (blk_cell BK1300.out 2).trans rfl⟩ (fun hHeld => ?_)
   clear hK K
   refine norm_ (a' := ?_) ?_ ?_
   rotate_left
   ·show Act.put _ (some 17) _ = _
    simp only [Act.put, List.setIfInBounds_toArray, List.set_cons_zero, List.set_cons_succ, i64_w, i32_w]
    rfl
   refine Zpt 5 (some 18) (h := ?_)
   refine pure_ (i := 6) (N := some 19) (v := undef) (a' := ?_) #[true, true, true, true, true, true, true, false, false, false, false] rfl rfl (any_of HT_.out (by kernel_rfl)) (fun _ _ _ h => h) (Or.inr ⟨by rfl, rfl⟩) ?_ ?_
   rotate_left
   ·exact ZW
   refine pure_ (i := 7) (N := some 20) (v := undef) (a' := ?_) #[true, true, true, true, true, true, true, true, false, false, false] rfl rfl (any_of HT_.out (by kernel_rfl)) (fun _ _ _ h => h) (Or.inr ⟨by rfl, rfl⟩) ?_ ?_
   rotate_left
   ·exact ZW
   refine Zpt 8 (some 21) (h := ?_)
   refine one_ (i := 9) (N := some 22) #[true, true, true, true, true, true, true, true, true, true, false] rfl rfl (one_of HT_.out (by kernel_rfl)) (by decide) (fun K hK => ?_)
   refine goes_ Try.func58 (by kernel_rfl) rfl #[.agg #[.int .i64 a0_0, .slice A0_1 l0_1.length c0_1, .slice A0_2 l0_2.length c0_2], .bool false] (by rfl) rfl rfl ZA ?_
   with_reducible refine (impl_jacobiCode.calls k a0_0 _ _ l0_1 _ _ l0_2 false t1305 _ ?side1 ?side2 ?side3 ?side4 A14.out).mono ?_
   (case side1 => exact ZE HR0_1)
   (case side2 => exact HC0_1.out)
   (case side3 => exact ZE HR0_2)
   (case side4 => exact HC0_2.out)
   rintro e w17 ⟨rfl, hb⟩
   refine ⟨_, rfl, ?_⟩
   have n0_ := ZL BK1300 hb
   have n1_ := Aside0.mk (below_step ZB hb)
   clear BK1300
   clear HB
   have BK1300 := n0_
   have HB := n1_
   clear n0_ n1_
   (try clear hb)
   (try clear hb2)
   (try clear hk)
   (try clear hi)
   refine hK.out _ _ ⟨(blk_cell BK1300.out 0).trans rfl, (blk_cell BK1300.out 1).trans rfl, (blk_cell BK1300.out 2).trans rfl⟩ (fun hHeld => ?_)
   clear hK K
   refine norm_ (a' := ?_) ?_ ?_
   rotate_left
   ·show Act.put _ (some 22) _ = _
    simp only [Act.put, List.setIfInBounds_toArray, List.set_cons_zero, List.set_cons_succ, i64_w, i32_w]
    rfl
   refine Zpt 10 (some 8) (h := ?_)
   refine done_ (done_of HT_.out (by kernel_rfl)) ?_
   try go_wp2
   go_meet
   case rel => exact ⟨_, (t1305), (by first | rfl | (simp; done) | (simp [*]; done)), H', ⟨by first | omega | exact Nat.le_refl _⟩, ⟨ZK BK1300⟩, ⟨ZB⟩⟩
 case rest =>
  clear HC4
  try clear p2
  try clear c4
  try clear c5
  try clear c6
  try clear c7
  try clear c8
  obtain ⟨kq, x8_3, rfl, HA, HJ3, BK1300, HB⟩ := hcut
  cases kq with
  | zero => exact absurd HA.out (by simp [impl_StepsOfJacobi.j0])
  | succ kj3 =>
   have H := HA.out
   clear HA
   simp only [impl_StepsOfJacobi.j0] at H
   by_cases c18 : x8_3 = 0
   ·rw [if_pos c18] at H
    have c18b0 : (x8_3 == 0) = true := beq_iff_eq.mpr c18
    have c18b1 : (x8_3 != 0) = false := bne_eq_false_iff_eq.mpr c18
    clear c18
    replace H := Option.bind_eq_some_iff.mp H
    obtain ⟨t1306, A190, H⟩ := H
    replace H : ((impl_Jacobi_part.f a0_0 l0_1 l0_2 0 t1306).bind fun bt1307 => (impl_StepsOfJacobi.l0 kj3 a1 (([(⟨bt1307.1, bt1307.2.1, bt1307.2.2⟩ : S29)] : List (S29))) a2 0)) = some (r1, r2) := H
    have A19 := Aside0.mk A190
    clear A190
    replace H := Option.bind_eq_some_iff.mp H
    obtain ⟨⟨t1307, t1308, t1311⟩, A200, H⟩ := H
    replace H : (impl_StepsOfJacobi.l0 kj3 a1 (([(⟨t1307, t1308, t1311⟩ : S29)] : List (S29))) a2 0) = some (r1, r2) := H
    have A20 := Aside0.mk A200
    clear A200
    obtain ⟨y1314, hy1314⟩ : ∃ y_ : List (S29), y_ = (([(⟨t1307, t1308, t1311⟩ : S29)] : List (S29))) := ⟨_, rfl⟩
    replace H : (impl_StepsOfJacobi.l0 kj3 a1 y1314 a2 0) = some (r1, r2) := by first | (rw [hy1314]; with_reducible exact H) | (have H2_ := (Option.bind_some _ _).symm.trans H; rw [hy1314]; with_reducible exact H2_) | (have H2_ := (Option.bind_some _ _).symm.trans H; with_reducible exact H2_) | with_reducible exact H | (rw [hy1314]; exact H) | exact H
    have Ny1314 := Aside0.mk hy1314
    clear hy1314
    have H' := Aside0.mk H
    clear H
    try go_wp2
    have n0_ := Aside0.mk (blk_drew BK1300.out)
    have n1_ := Aside0.mk (below_drew1 HB.out)
    clear BK1300
    clear HB
    have BK1300 := n0_
    have HB := n1_
    clear n0_ n1_
    refine start_ (n := 6) (S := fun w' => w'.cell? ⟨gb1300, 0, none⟩ = some (.int .i64 a0_0) ∧ w'.cell? ⟨gb1300, 1, none⟩ = some (.slice A0_1 l0_1.length c0_1) ∧ w'.cell? ⟨gb1300, 2, none⟩ = some (.slice A0_2 l0_2.length c0_2)) (ds := []) #[false, false, false, false, false, false] (by kernel_rfl) rfl rfl ⟨(blk_cell BK1300.out 0).trans rfl, (blk_cell BK1300.out 1).trans rfl, (blk_cell BK1300.out 2).trans rfl⟩ (fun hHeld => ?_)
    generalize wc.drew = w21 at BK1300 HB hHeld ⊢
    refine Zt3 0 (some 26) hHeld (h := ?_)
    refine Zt3 1 (some 27) hHeld (h := ?_)
    refine one_ (i := 2) (N := some 28) #[true, true, true, false, false, false] rfl rfl (by kernel_rfl) (by decide) (fun K hK => ?_)
    refine goes_ Try.func59 (by kernel_rfl) rfl #[.agg #[.int .i64 a0_0, .slice A0_1 l0_1.length c0_1, .slice A0_2 l0_2.length c0_2]] (by rfl) rfl rfl ZA ?_
    with_reducible refine (impl_Jacobi_size.calls a0_0 _ _ l0_1 _ _ l0_2 t1306 _ ?side1 ?side2 ?side3 ?side4 A19.out).mono ?_
    (case side1 => exact ZC HR0_1)
    (case side2 => exact HC0_1.out)
    (case side3 => exact ZC HR0_2)
    (case side4 => exact HC0_2.out)
    rintro e w22 ⟨rfl, hb⟩
    refine ⟨_, rfl, ?_⟩
    have n0_ := ZL BK1300 hb
    have n1_ := Aside0.mk (below_step ZB hb)
    clear BK1300
    clear HB
    have BK1300 := n0_
    have HB := n1_
    clear n0_ n1_
    (try clear hb)
    (try clear hb2)
    (try clear hk)
    (try clear hi)
    refine hK.out _ _ ⟨(blk_cell BK1300.out 0).trans rfl, (blk_cell BK1300.out 1).trans rfl, (blk_cell BK1300.out 2).trans rfl⟩ (fun hHeld => ?_)
    clear hK K
    refine norm_ (a' := ?_) ?_ ?_
    rotate_left
    ·show Act.put _ (some 28) _ = _
     simp only [Act.put, List.setIfInBounds_toArray, List.set_cons_zero, List.set_cons_succ, i64_w, i32_w]
     rfl
    refine one_ (i := 3) (N := some 29) #[true, true, true, true, false, false] rfl rfl (by kernel_rfl) (by decide) (fun K hK => ?_)
    refine goes_ Try.func89 (by kernel_rfl) rfl #[.agg #[.int .i64 a0_0, .slice A0_1 l0_1.length c0_1, .slice A0_2 l0_2.length c0_2], .int .i64 0, .int .i64 t1306] (by rfl) rfl rfl ZA ?_
    with_reducible refine (impl_Jacobi_part.calls a0_0 _ _ l0_1 _ _ l0_2 0 t1306 t1307 t1308 t1311 _ ?side1 ?side2 ?side3 ?side4 A20.out).mono ?_
    (case side1 => exact ZC HR0_1)
    (case side2 => exact HC0_1.out)
    (case side3 => exact ZC HR0_2)
    (case side4 => exact HC0_2.out)
    rintro e w23 ⟨v1309, v1312, rfl, ho0, ho1, hb⟩
    refine ⟨_, rfl, ?_⟩
    have n0_ := Aside0.mk (Kd.R_lower (Kd.R_newM (M := fun k_ => (w.heap.size ≤ k_)) ho0 (below_size ZB) (fun k_ h_ => h_)) (below_size ZB))
    have n1_ := Aside0.mk (Kd.R_lower (Kd.R_newM (M := fun k_ => (w.heap.size ≤ k_)) ho1 (below_size ZB) (fun k_ h_ => h_)) (below_size ZB))
    have n2_ := ZL BK1300 hb
    have n3_ := Aside0.mk (below_step ZB hb)
    clear BK1300
    clear HB
    have HO1310 := n0_
    have HO1313 := n1_
    have BK1300 := n2_
    have HB := n3_
    clear n0_ n1_ n2_ n3_
    (try clear hb)
    (try clear hb2)
    (try clear hk)
    (try clear hi)
    (try clear ho0)
    (try clear ho1)
    obtain ⟨Ao24, co24, eo24⟩ := Kd.R_slice HO1310.out
    (first | subst eo24 | (injection eo24 with f1_ f2_ f3_; have f4_ := f1_.symm; have f5_ := f3_.symm; clear f1_ f2_ f3_; subst f4_; subst f5_))
    obtain ⟨Ao25, co25, eo25⟩ := Kd.R_slice HO1313.out
    (first | subst eo25 | (injection eo25 with f1_ f2_ f3_; have f4_ := f1_.symm; have f5_ := f3_.symm; clear f1_ f2_ f3_; subst f4_; subst f5_))
    refine hK.out _ _ ⟨(blk_cell BK1300.out 0).trans rfl, (blk_cell BK1300.out 1).trans rfl, (blk_cell BK1300.out 2).trans rfl⟩ (fun hHeld => ?_)
    clear hK K
    refine norm_ (a' := ?_) ?_ ?_
    rotate_left
    ·show Act.put _ (some 29) _ = _
     simp only [Act.put, List.setIfInBounds_toArray, List.set_cons_zero, List.set_cons_succ, i64_w, i32_w]
     rfl
    refine one_ (i := 4) (N := some 30) #[true, true, true, true, true, false] rfl rfl (by kernel_rfl) (by decide) (fun K hK => ?_)
    refine Kd.N_lit_step k29 _ 29 ?hg (N' := 30) ?hd (xs := ([(⟨t1307, t1308, t1311⟩ : S29)] : List (S29))) (inner := [.int .i64 t1307, .slice Ao24 t1308.length co24, .slice Ao25 t1311.length co25]) (ok := (fun k_ => (w.heap.size ≤ k_) ∧ k_ ≠ gb1300)) (okp := (fun k_ => (w.heap.size ≤ k_) ∧ k_ ≠ gb1300)) ?hr ?hp (fun _ hk => hk) ((show ∀ k_, w23.heap.size ≤ k_ → (fun k_ => (w.heap.size ≤ k_) ∧ k_ ≠ gb1300) k_ from fun k_ hk => ⟨(Nat.le_trans (below_size ZB) hk), Kd.freshB (ZK BK1300) k_ hk⟩) _ (Nat.le_refl _)) (Below.refl _ _) (Nat.le_refl _) (by simp) ?_; (case hd => rfl); (case hg => rfl); (case hr => first | (go_simp; done) | (go_simp; rfl)); (case hp => exact (Reps.c3 (show Kd.FK k29 _ _ (⟨t1307, t1308, t1311⟩ : S29) [.int .i64 t1307, .slice Ao24 t1308.length co24, .slice Ao25 t1311.length co25] from (k29_mkF _ _ (⟨t1307, t1308, t1311⟩ : S29) (Kd.R_reads' (Kd.R_mono (ok' := (fun k_ => (w.heap.size ≤ k_) ∧ k_ ≠ gb1300)) (Kd.R_types (HO1310.out) BK1300.out (by decide)) (fun k_ hk => (And.intro (hk.1.1) (hk.2))))).2.1 (Kd.R_F (Kd.R_mono (ok' := (fun k_ => (w.heap.size ≤ k_) ∧ k_ ≠ gb1300)) (Kd.R_types (HO1310.out) BK1300.out (by decide)) (fun k_ hk => (And.intro (hk.1.1) (hk.2))))) (Kd.R_reads' (Kd.R_mono (ok' := (fun k_ => (w.heap.size ≤ k_) ∧ k_ ≠ gb1300)) (Kd.R_types (HO1313.out) BK1300.out (by decide)) (fun k_ hk => (And.intro (hk.1.1) (hk.2))))).2.1 (Kd.R_F (Kd.R_mono (ok' := (fun k_ => (w.heap.size ≤ k_) ∧ k_ ≠ gb1300)) (Kd.R_types (HO1313.out) BK1300.out (by decide)) (fun k_ hk => (And.intro (hk.1.1) (hk.2))))))) (Reps.none _ _)))
    intro v1315 w26 ho27 hb hg_ hnew_
    clear hg_ hnew_
    (first | rw [← Ny1314.out] at ho27 | (simp only [Int.reduceToNat] at ho27; rw [← Ny1314.out] at ho27))
    have n0_ := Aside0.mk (Kd.N_lower ho27 (below_size ZB))
    have n1_ := ZL BK1300 hb
    have n2_ := Aside0.mk (below_step ZB hb)
    clear BK1300
    clear HB
    clear HO1310
    clear HO1313
    have HO1316 := n0_
    have BK1300 := n1_
    have HB := n2_
    clear n0_ n1_ n2_
    clear hb ho27
    refine hK.out _ _ ⟨(blk_cell BK1300.out 0).trans rfl, (blk_cell BK1300.out 1).trans rfl, (blk_cell BK1300.out 2).trans rfl⟩ (fun hHeld => ?_)
    clear hK K
    refine norm_ (a' := ?_) ?_ ?_
    rotate_left
    ·show Act.put _ (some 30) _ = _
     simp only [Act.put, List.setIfInBounds_toArray, List.set_cons_zero, List.set_cons_succ, i64_w, i32_w]
     rfl
    refine Zp 5 (some 9) (h := ?_)
    refine done_ (by kernel_rfl) ?_
    try go_wp2
    go_loopg [9, 32] kj3 (fun kq v9 v32 w' => ∃ (x9_2 : List (S29)) (x32_2 : Int), v32 = .int .i64 x32_2 ∧ Aside0 (impl_StepsOfJacobi.l0 kq a1 x9_2 a2 x32_2 = some (r1, r2)) ∧ Aside0 (kq ≤ kj3) ∧ Aside0 (Kd.N k29 29 w' w.heap.size (fun k_ => (w.heap.size ≤ k_) ∧ k_ ≠ gb1300) v9 x9_2) ∧ Aside0 (w'.heap[gb1300]? = some (.cells #[.int .i64 a0_0, (.slice A0_1 l0_1.length c0_1), (.slice A0_2 l0_2.length c0_2)] 29 (0, 0))) ∧ Aside0 (Below w.heap.size w w'))
    case atStart => exact ⟨(y1314), (0), (by first | rfl | (simp; done) | (simp [*]; done)), H', ⟨Nat.le_refl _⟩, ⟨by (with_reducible repeat (first | apply Kd.N_alloc | apply Kd.N_drewN | apply Kd.N_drew)); exact HO1316.out⟩, ⟨ZK BK1300⟩, ⟨ZB⟩⟩
    case round =>
     clear H'
     try clear c1
     try clear p2
     try clear c3
     try clear c4
     try clear c5
     try clear c6
     try clear c7
     try clear c8
     try clear c18
     try clear c18b0
     try clear c18b1
     try clear p2
     obtain ⟨x9_2, x32_2, rfl, HA, HK2, HO_9, BK1300, HB⟩ := hrel
     cases gk with
     | zero => exact absurd HA.out (by simp [impl_StepsOfJacobi.l0])
     | succ k2 =>
      have H := HA.out
      clear HA
      simp only [impl_StepsOfJacobi.l0] at H
      by_cases c28 : x32_2 < a2
      ·rw [if_pos c28] at H
       have c28b0 : decide (x32_2 < a2) = true := decide_eq_true c28
       clear c28
       by_cases c29 : 0 ≤ x32_2
       ·rw [if_pos c29] at H
        have c29b0 : decide (0 ≤ x32_2) = true := decide_eq_true c29
        clear c29
        by_cases c30 : x32_2 < (x9_2.length : Int)
        ·rw [if_pos c30] at H
         have c30b0 : decide (x32_2 < (x9_2.length : Int)) = true := decide_eq_true c30
         clear c30
         replace H := Option.bind_eq_some_iff.mp H
         obtain ⟨⟨t1318, t1319, t1322, t1325⟩, A310, H⟩ := H
         replace H : (if t1325 = true then (if x9_2.length < 2513169434916 then (impl_StepsOfJacobi.l0 k2 a1 (x9_2 ++ [(⟨t1318, t1319, t1322⟩ : S29)]) a2 (wrap64 (x32_2 + 1))) else (none)) else (some (([] : List (S29)), 5))) = some (r1, r2) := H
         have A31 := Aside0.mk A310
         clear A310
         by_cases c32 : t1325 = true
         ·subst c32
          have H1 : (if x9_2.length < 2513169434916 then (impl_StepsOfJacobi.l0 k2 a1 (x9_2 ++ [(⟨t1318, t1319, t1322⟩ : S29)]) a2 (wrap64 (x32_2 + 1))) else (none)) = some (r1, r2) := by rw [if_pos rfl] at H; exact H
          clear H
          have H := H1
          clear H1
          by_cases c33 : x9_2.length < 2513169434916
          ·rw [if_pos c33] at H
           have LMc33 := Aside0.mk c33
           clear c33
           obtain ⟨y1327, hy1327⟩ : ∃ y_ : List (S29), y_ = (x9_2 ++ [(⟨t1318, t1319, t1322⟩ : S29)]) := ⟨_, rfl⟩
           replace H : (impl_StepsOfJacobi.l0 k2 a1 y1327 a2 (wrap64 (x32_2 + 1))) = some (r1, r2) := by first | (rw [hy1327]; with_reducible exact H) | (have H2_ := (Option.bind_some _ _).symm.trans H; rw [hy1327]; with_reducible exact H2_) | (have H2_ := (Option.bind_some _ _).symm.trans H; with_reducible exact H2_) | with_reducible exact H | (rw [hy1327]; exact H) | exact H
           have Ny1327 := Aside0.mk hy1327
           clear hy1327
           have H' := Aside0.mk H
           clear H
           obtain ⟨Ao34, co34, eo34⟩ := Kd.N_slice HO_9.out
           subst eo34
           have p1317 : 0 ≤ (x32_2 : Int) := of_decide_eq_true (by first | (with_reducible assumption) | assumption)
           have q1317 : x32_2 < (x9_2.length : Int) := of_decide_eq_true (by first | (with_reducible assumption) | assumption)
           obtain ⟨ad1317, A1317_1, c1317_1, A1317_2, c1317_2, e1317, hx1317_0, hx1317_1, hx1317_2, hl1317_1, hi1317_1, hl1317_2, hi1317_2⟩ := at_T29 (Kd.N_reads' HO_9.out).2.2 x32_2 p1317 q1317
           cases e1317
           obtain ⟨ce1317, hce1317, hMe1317, hcc1317⟩ := Kd.N_get HO_9.out z29 x32_2 p1317 (by first | exact q1317 | exact of_decide_eq_true (by first | (with_reducible assumption) | assumption) | (have e_ := (Kd.N_reads' HO_9.out).1; omega))
           obtain ⟨ua1317_1, uc1317_1, ua1317_2, uc1317_2, rfl, ul1317_1, ge1317_1, ul1317_2, ge1317_2⟩ := k29_openF hMe1317
           have hv1317_1 := hcc1317 1 _ rfl
           rw [add_field _ _ 1 (by omega)] at hv1317_1
           replace hv1317_1 := Option.some.inj (hv1317_1.symm.trans hx1317_1)
           injection hv1317_1 with hva_ hvn_ hvc_
           rw [hva_] at ge1317_1
           rw [hvc_] at ul1317_1
           have HL1317_1 := Aside0.mk (show Kd.V (Kd.int .i64) 2 _ w.heap.size _ _ ((rd_T29 x9_2 x32_2).f1) from Kd.V_mk ul1317_1 ge1317_1)
           clear hva_ hvn_ hvc_ ge1317_1 ul1317_1
           have hv1317_2 := hcc1317 2 _ rfl
           rw [add_field _ _ 2 (by omega)] at hv1317_2
           replace hv1317_2 := Option.some.inj (hv1317_2.symm.trans hx1317_2)
           injection hv1317_2 with hva_ hvn_ hvc_
           rw [hva_] at ge1317_2
           rw [hvc_] at ul1317_2
           have HL1317_2 := Aside0.mk (show Kd.V (Kd.int .i64) 2 _ w.heap.size _ _ ((rd_T29 x9_2 x32_2).f2) from Kd.V_mk ul1317_2 ge1317_2)
           clear hva_ hvn_ hvc_ ge1317_2 ul1317_2
           clear hcc1317 hce1317
           have HR1317_1 := Aside0.mk hi1317_1
           have HC1317_1 := Aside0.mk hl1317_1
           clear hi1317_1 hl1317_1
           have HR1317_2 := Aside0.mk hi1317_2
           have HC1317_2 := Aside0.mk hl1317_2
           clear hi1317_2 hl1317_2
           replace p1317 := eq_true p1317
           replace q1317 := eq_true q1317
           go_wp2_with (first | ((with_reducible refine gate_callee (f := 66) rfl ?_); refine goesL_ (some 41) rfl rfl Try.func66 (by kernel_rfl) rfl #[.agg #[.int .i64 ((rd_T29 x9_2 x32_2).f0), .slice A1317_1 ((rd_T29 x9_2 x32_2).f1).length c1317_1, .slice A1317_2 ((rd_T29 x9_2 x32_2).f2).length c1317_2], .int .i64 a1] rfl ZA ?_; (with_reducible refine (impl_Jacobi_step.calls k2 ((rd_T29 x9_2 x32_2).f0) _ _ ((rd_T29 x9_2 x32_2).f1) _ _ ((rd_T29 x9_2 x32_2).f2) a1 t1318 t1319 t1322 true _ ?side1 ?side2 ?side3 ?side4 A31.out).mono ?_); (case side1 => repeat (first | exact (by repeat (first | (with_reducible exact HR1317_1.out) | (with_reducible refine Kd.C_alloc ?_ _) | (with_reducible refine Kd.C_drewN ?_ _) | (with_reducible refine Kd.C_drew ?_) | exact HR1317_1.out)) | (with_reducible refine Kd.C_alloc ?_ _) | (with_reducible refine Kd.C_drewN ?_ _) | (with_reducible refine Kd.C_drew ?_))); (case side2 => exact HC1317_1.out); (case side3 => repeat (first | exact (by repeat (first | (with_reducible exact HR1317_2.out) | (with_reducible refine Kd.C_alloc ?_ _) | (with_reducible refine Kd.C_drewN ?_ _) | (with_reducible refine Kd.C_drew ?_) | exact HR1317_2.out)) | (with_reducible refine Kd.C_alloc ?_ _) | (with_reducible refine Kd.C_drewN ?_ _) | (with_reducible refine Kd.C_drew ?_))); (case side4 => exact HC1317_2.out); rintro e w35 ⟨v1320, v1323, rfl, ho0, ho1, hb⟩; refine ⟨_, rfl, ?_⟩; have n0_ := Aside0.mk (Kd.N_mono (Kd.N_told (Kd.N_told (Kd.N_old (by (with_reducible repeat (first | apply Kd.N_alloc | apply Kd.N_drewN | apply Kd.N_drew)); exact HO_9.out) hb) (Kd.R_base ho0)) (Kd.R_base ho1)) (fun _ h_ => h_.1)); have n1_ := Aside0.mk (Kd.V_mono (Kd.V_told (Kd.V_told (Kd.V_old (by (with_reducible repeat (first | apply Kd.V_alloc | apply Kd.V_drewN | apply Kd.V_drew)); exact HL1317_1.out) hb) (Kd.R_base ho0)) (Kd.R_base ho1)) (fun _ h_ => h_.1)); have n2_ := Aside0.mk (Kd.V_mono (Kd.V_told (Kd.V_told (Kd.V_old (by (with_reducible repeat (first | apply Kd.V_alloc | apply Kd.V_drewN | apply Kd.V_drew)); exact HL1317_2.out) hb) (Kd.R_base ho0)) (Kd.R_base ho1)) (fun _ h_ => h_.1)); have n3_ := Aside0.mk (Kd.R_lower (Kd.R_newM (M := fun k_ => (w.heap.size ≤ k_)) ho0 (below_size ZB) (fun k_ h_ => h_)) (below_size ZB)); have n4_ := Aside0.mk (Kd.R_lower (Kd.R_newM (M := fun k_ => (w.heap.size ≤ k_)) ho1 (below_size ZB) (fun k_ h_ => h_)) (below_size ZB)); have n5_ := ZL BK1300 hb; have n6_ := Aside0.mk (Kd.C_below (by repeat (first | (with_reducible exact HR1317_1.out) | (with_reducible refine Kd.C_alloc ?_ _) | (with_reducible refine Kd.C_drewN ?_ _) | (with_reducible refine Kd.C_drew ?_) | exact HR1317_1.out)) hb); have n7_ := Aside0.mk (Kd.C_below (by repeat (first | (with_reducible exact HR1317_2.out) | (with_reducible refine Kd.C_alloc ?_ _) | (with_reducible refine Kd.C_drewN ?_ _) | (with_reducible refine Kd.C_drew ?_) | exact HR1317_2.out)) hb); have n8_ := Aside0.mk (below_step ZB hb); clear HO_9; clear HL1317_1; clear HL1317_2; clear BK1300; clear HR1317_1; clear HR1317_2; clear HB; have HO_9 := n0_; have HL1317_1 := n1_; have HL1317_2 := n2_; have HO1321 := n3_; have HO1324 := n4_; have BK1300 := n5_; have HR1317_1 := n6_; have HR1317_2 := n7_; have HB := n8_; clear n0_ n1_ n2_ n3_ n4_ n5_ n6_ n7_ n8_; (try clear hb); (try clear hb2); (try clear hk); (try clear hi); (try clear ho0); (try clear ho1)) | ((with_reducible refine gate_dst (N := 11) rfl ?_); refine box_event ?hg (N := 11) ?hd (cs := #[.int .i64 0, .slice none 0 0, .slice none 0 0]) (t := 29) ?hr ?_; (case hd => rfl); (case hg => rfl); (case hr => first | (go_simp; done) | (go_simp; rfl)); intro gb1326 hg w36 hbox hb; have n0_ := Aside0.mk (Kd.N_below (Kd.N_elderB (by (with_reducible repeat (first | apply Kd.N_alloc | apply Kd.N_drewN | apply Kd.N_drew)); exact HO_9.out) gb1326 (Nat.le_of_eq hg.symm)) hb); have n1_ := Aside0.mk (Kd.V_below (Kd.V_elderB (by (with_reducible repeat (first | apply Kd.V_alloc | apply Kd.V_drewN | apply Kd.V_drew)); exact HL1317_1.out) gb1326 (Nat.le_of_eq hg.symm)) hb); have n2_ := Aside0.mk (Kd.V_below (Kd.V_elderB (by (with_reducible repeat (first | apply Kd.V_alloc | apply Kd.V_drewN | apply Kd.V_drew)); exact HL1317_2.out) gb1326 (Nat.le_of_eq hg.symm)) hb); have n3_ := Aside0.mk (Kd.R_below (ZR HO1321) hb); have n4_ := Aside0.mk (Kd.R_below (ZR HO1324) hb); have n5_ := ZL BK1300 hb; have n6_ := Aside0.mk (Kd.C_below (by repeat (first | (with_reducible exact HR1317_1.out) | (with_reducible refine Kd.C_alloc ?_ _) | (with_reducible refine Kd.C_drewN ?_ _) | (with_reducible refine Kd.C_drew ?_) | exact HR1317_1.out)) hb); have n7_ := Aside0.mk (Kd.C_below (by repeat (first | (with_reducible exact HR1317_2.out) | (with_reducible refine Kd.C_alloc ?_ _) | (with_reducible refine Kd.C_drewN ?_ _) | (with_reducible refine Kd.C_drew ?_) | exact HR1317_2.out)) hb); have n8_ := Aside0.mk (below_step ZB hb); have n9_ := Aside0.mk (hbox); have n10_ := Aside0.mk ((ZG hg : w.heap.size ≤ gb1326)); have n11_ := Aside0.mk ((ZG hg : w.heap.size ≤ gb1326)); have n12_ := Aside0.mk ((ZN hg BK1300 : gb1300 ≠ gb1326)); have n13_ := Aside0.mk ((ZM hg BK1300 : gb1326 ≠ gb1300)); clear HO_9; clear HL1317_1; clear HL1317_2; clear HO1321; clear HO1324; clear BK1300; clear HR1317_1; clear HR1317_2; clear HB; have HO_9 := n0_; have HL1317_1 := n1_; have HL1317_2 := n2_; have HO1321 := n3_; have HO1324 := n4_; have BK1300 := n5_; have HR1317_1 := n6_; have HR1317_2 := n7_; have HB := n8_; have BK1326 := n9_; have GW1326 := n10_; have GE1326 := n11_; have NB1300_1326 := n12_; have NB1326_1300 := n13_; clear n0_ n1_ n2_ n3_ n4_ n5_ n6_ n7_ n8_ n9_ n10_ n11_ n12_ n13_; clear hb hbox hg; have hnb37 := NB1326_1300.out; have hnc37 := NB1300_1326.out; obtain ⟨hcz38_0, hcz38_1, hcz38_2, hfz38_0, hfz38_1, hfz38_2⟩ := ZD3 BK1326; obtain ⟨Ao39, co39, eo39⟩ := Kd.R_slice HO1321.out; subst eo39; obtain ⟨Ao40, co40, eo40⟩ := Kd.R_slice HO1324.out; subst eo40) | ((with_reducible refine gate_store (t := 29) (p := 11) rfl ?_); refine store_event (t := 29) (p := 11) (v := ?vo_w41) (w1 := (((w36.setCell ⟨gb1326, 0, none⟩ (.int .i64 t1318)).setCell ⟨gb1326, 1, none⟩ (.slice Ao39 t1319.length co39)).setCell ⟨gb1326, 2, none⟩ (.slice Ao40 t1322.length co40))) ?hg ?ho ?hn ?hr ?_; (case ho => rfl); (case hg => rfl); (case hn => rfl); (case hr => first | (go_simp; done) | (go_simp; rfl)); intro w41 hw; have n0_ : Aside0 (Kd.N k29 29 w41 w.heap.size (fun k_ => (w.heap.size ≤ k_) ∧ some k_ ≠ (.slice Ao39 t1319.length co39 : Value).ownBlock ∧ some k_ ≠ (.slice Ao40 t1322.length co40 : Value).ownBlock ∧ k_ ≠ gb1300 ∧ k_ ≠ gb1326) (.slice (some ad1317) x9_2.length co34) x9_2) := ⟨(by rw [hw]; exact (by (with_reducible repeat (first | apply Kd.N_alloc | apply Kd.N_drewN | apply Kd.N_drew)); exact Kd.N_mono (Kd.N_far (p := ⟨gb1326, 2, none⟩) (Kd.N_far (p := ⟨gb1326, 1, none⟩) (Kd.N_far (p := ⟨gb1326, 0, none⟩) (Kd.N_mono HO_9.out (fun k_ hk => (⟨hk, hk.2⟩ : _ ∧ k_ ≠ gb1326))) (fun _ hk => hk.2) (.int .i64 t1318)) (fun _ hk => hk.2) (.slice Ao39 t1319.length co39)) (fun _ hk => hk.2) (.slice Ao40 t1322.length co40)) (fun _ hk => (And.intro (hk.1.1.1.1.1) ((And.intro (hk.1.1.1.2) ((And.intro (hk.1.1.2) ((And.intro (hk.1.1.1.1.2) (hk.1.2)))))))))))⟩; have n1_ : Aside0 (Kd.V (Kd.int .i64) 2 w41 w.heap.size (fun k_ => (w.heap.size ≤ k_) ∧ some k_ ≠ (.slice (some ad1317) x9_2.length co34 : Value).ownBlock ∧ some k_ ≠ (.slice Ao39 t1319.length co39 : Value).ownBlock ∧ some k_ ≠ (.slice Ao40 t1322.length co40 : Value).ownBlock ∧ k_ ≠ gb1300 ∧ k_ ≠ gb1326) (.slice A1317_1 ((rd_T29 x9_2 x32_2).f1).length c1317_1) ((rd_T29 x9_2 x32_2).f1)) := ⟨(by rw [hw]; exact (by (with_reducible repeat (first | apply Kd.V_alloc | apply Kd.V_drewN | apply Kd.V_drew)); exact Kd.V_mono (Kd.V_far (p := ⟨gb1326, 2, none⟩) (Kd.V_far (p := ⟨gb1326, 1, none⟩) (Kd.V_far (p := ⟨gb1326, 0, none⟩) (Kd.V_mono HL1317_1.out (fun k_ hk => (⟨hk, hk.2⟩ : _ ∧ k_ ≠ gb1326))) (fun _ hk => hk.2) (.int .i64 t1318)) (fun _ hk => hk.2) (.slice Ao39 t1319.length co39)) (fun _ hk => hk.2) (.slice Ao40 t1322.length co40)) (fun _ hk => (And.intro (hk.1.1.1.1.1.1) ((And.intro (hk.1.1.1.1.2) ((And.intro (hk.1.1.1.2) ((And.intro (hk.1.1.2) ((And.intro (hk.1.1.1.1.1.2) (hk.1.2)))))))))))))⟩; have n2_ : Aside0 (Kd.V (Kd.int .i64) 2 w41 w.heap.size (fun k_ => (w.heap.size ≤ k_) ∧ some k_ ≠ (.slice (some ad1317) x9_2.length co34 : Value).ownBlock ∧ some k_ ≠ (.slice Ao39 t1319.length co39 : Value).ownBlock ∧ some k_ ≠ (.slice Ao40 t1322.length co40 : Value).ownBlock ∧ k_ ≠ gb1300 ∧ k_ ≠ gb1326) (.slice A1317_2 ((rd_T29 x9_2 x32_2).f2).length c1317_2) ((rd_T29 x9_2 x32_2).f2)) := ⟨(by rw [hw]; exact (by (with_reducible repeat (first | apply Kd.V_alloc | apply Kd.V_drewN | apply Kd.V_drew)); exact Kd.V_mono (Kd.V_far (p := ⟨gb1326, 2, none⟩) (Kd.V_far (p := ⟨gb1326, 1, none⟩) (Kd.V_far (p := ⟨gb1326, 0, none⟩) (Kd.V_mono HL1317_2.out (fun k_ hk => (⟨hk, hk.2⟩ : _ ∧ k_ ≠ gb1326))) (fun _ hk => hk.2) (.int .i64 t1318)) (fun _ hk => hk.2) (.slice Ao39 t1319.length co39)) (fun _ hk => hk.2) (.slice Ao40 t1322.length co40)) (fun _ hk => (And.intro (hk.1.1.1.1.1.1) ((And.intro (hk.1.1.1.1.2) ((And.intro (hk.1.1.1.2) ((And.intro (hk.1.1.2) ((And.intro (hk.1.1.1.1.1.2) (hk.1.2)))))))))))))⟩; have n3_ : Aside0 (Kd.R (Kd.int .i64) 2 w41 w.heap.size (fun k_ => (w.heap.size ≤ k_) ∧ some k_ ≠ (.slice Ao40 t1322.length co40 : Value).ownBlock) (.slice Ao39 t1319.length co39) t1319) := ⟨(by rw [hw]; exact (by refine ZQ ?_; exact Kd.R_mono (Kd.R_far (p := ⟨gb1326, 2, none⟩) (Kd.R_far (p := ⟨gb1326, 1, none⟩) (Kd.R_far (p := ⟨gb1326, 0, none⟩) (Kd.R_types HO1321.out BK1326.out (by decide)) (fun _ hk => hk.2) (.int .i64 t1318)) (fun _ hk => hk.2) (.slice Ao39 t1319.length co39)) (fun _ hk => hk.2) (.slice Ao40 t1322.length co40)) (fun _ hk => (And.intro (hk.1.1) (hk.1.2)))))⟩; have n4_ : Aside0 (Kd.R (Kd.int .i64) 2 w41 w.heap.size (fun k_ => (w.heap.size ≤ k_) ∧ some k_ ≠ (.slice Ao39 t1319.length co39 : Value).ownBlock) (.slice Ao40 t1322.length co40) t1322) := ⟨(by rw [hw]; exact (by refine ZQ ?_; exact Kd.R_mono (Kd.R_far (p := ⟨gb1326, 2, none⟩) (Kd.R_far (p := ⟨gb1326, 1, none⟩) (Kd.R_far (p := ⟨gb1326, 0, none⟩) (Kd.R_types HO1324.out BK1326.out (by decide)) (fun _ hk => hk.2) (.int .i64 t1318)) (fun _ hk => hk.2) (.slice Ao39 t1319.length co39)) (fun _ hk => hk.2) (.slice Ao40 t1322.length co40)) (fun _ hk => (And.intro (hk.1.1) (hk.1.2)))))⟩; have n5_ : Aside0 (w41.heap[gb1300]? = some (.cells #[.int .i64 a0_0, .slice A0_1 l0_1.length c0_1, .slice A0_2 l0_2.length c0_2] 29 (0, 0))) := ⟨(by rw [hw]; exact (by refine ZS ?_; refine blk_far ?_ NB1300_1326.out _; refine ZS ?_; refine blk_far ?_ NB1300_1326.out _; refine ZS ?_; refine blk_far ?_ NB1300_1326.out _; refine ZS ?_; exact BK1300.out))⟩; have n6_ : Aside0 (w41.heap[gb1326]? = some (.cells #[.int .i64 t1318, .slice Ao39 t1319.length co39, .slice Ao40 t1322.length co40] 29 (0, 0))) := ⟨(by rw [hw]; exact (by refine ZS ?_; refine blk_put (cs := #[.int .i64 t1318, .slice Ao39 t1319.length co39, .slice none 0 0]) ?_ 2 _ rfl; refine ZS ?_; refine blk_put (cs := #[.int .i64 t1318, .slice none 0 0, .slice none 0 0]) ?_ 1 _ rfl; refine ZS ?_; refine blk_put (cs := #[.int .i64 0, .slice none 0 0, .slice none 0 0]) ?_ 0 _ rfl; refine ZS ?_; exact BK1326.out))⟩; have n7_ : Aside0 (Below w.heap.size w w41) := ⟨(by rw [hw]; exact ZB)⟩; clear hw; clear HO_9; clear HL1317_1; clear HL1317_2; clear HO1321; clear HO1324; clear BK1300; clear BK1326; clear HB; have HO_9 := n0_; have HL1317_1 := n1_; have HL1317_2 := n2_; have HO1321 := n3_; have HO1324 := n4_; have BK1300 := n5_; have BK1326 := n6_; have HB := n7_; clear n0_ n1_ n2_ n3_ n4_ n5_ n6_ n7_; obtain ⟨hcz42_0, hcz42_1, hcz42_2, hfz42_0, hfz42_1, hfz42_2⟩ := ZD3 BK1326) | ((with_reducible refine gate_builtin (b := .append) (xs := #[.tmp 46, .tmp 48]) rfl ?_); at_builtin; refine Kd.N_append k29 (w0 := w) w.heap.size rfl (.tmp 46) (.tmp 48) 53 29 (.agg #[(.int .i64 0), (.slice none 0 0), (.slice none 0 0)]) 56 rfl Try.underlying53 info29 rfl (by decide) (by omega) (.slice (some ad1317) x9_2.length co34) x9_2 (⟨t1318, t1319, t1322⟩ : S29) [.int .i64 t1318, .slice Ao39 t1319.length co39, .slice Ao40 t1322.length co40] (fun k_ => (w.heap.size ≤ k_) ∧ k_ ≠ gb1300 ∧ k_ ≠ gb1326) (fun k_ => ((fun k_ => (w.heap.size ≤ k_) ∧ k_ ≠ gb1300 ∧ k_ ≠ gb1326)) k_ ∧ some k_ ≠ (.slice (some ad1317) x9_2.length co34 : Value).ownBlock) rfl rfl ?aP (fun _ hk => hk) ?aF ?aO ?aB ?aS ?aL ?_; (case aP => exact (k29_mkF _ _ (⟨t1318, t1319, t1322⟩ : S29) (Kd.R_reads' (Kd.R_mono (ok' := (fun k_ => ((fun k_ => (w.heap.size ≤ k_) ∧ k_ ≠ gb1300 ∧ k_ ≠ gb1326)) k_ ∧ some k_ ≠ (.slice (some ad1317) x9_2.length co34 : Value).ownBlock)) (Kd.R_types (Kd.R_types (Kd.R_apart' (HO1321.out) (Kd.N_typed HO_9.out) (by decide)) BK1300.out (by decide)) BK1326.out (by decide)) (fun k_ hk => (And.intro ((And.intro (hk.1.1.1.1) ((And.intro (hk.1.2) (hk.2))))) (hk.1.1.2))))).2.1 (Kd.R_F (Kd.R_mono (ok' := (fun k_ => ((fun k_ => (w.heap.size ≤ k_) ∧ k_ ≠ gb1300 ∧ k_ ≠ gb1326)) k_ ∧ some k_ ≠ (.slice (some ad1317) x9_2.length co34 : Value).ownBlock)) (Kd.R_types (Kd.R_types (Kd.R_apart' (HO1321.out) (Kd.N_typed HO_9.out) (by decide)) BK1300.out (by decide)) BK1326.out (by decide)) (fun k_ hk => (And.intro ((And.intro (hk.1.1.1.1) ((And.intro (hk.1.2) (hk.2))))) (hk.1.1.2))))) (Kd.R_reads' (Kd.R_mono (ok' := (fun k_ => ((fun k_ => (w.heap.size ≤ k_) ∧ k_ ≠ gb1300 ∧ k_ ≠ gb1326)) k_ ∧ some k_ ≠ (.slice (some ad1317) x9_2.length co34 : Value).ownBlock)) (Kd.R_types (Kd.R_types (Kd.R_apart' (HO1324.out) (Kd.N_typed HO_9.out) (by decide)) BK1300.out (by decide)) BK1326.out (by decide)) (fun k_ hk => (And.intro ((And.intro (hk.1.1.1.1) ((And.intro (hk.1.2) (hk.2))))) (hk.1.1.2))))).2.1 (Kd.R_F (Kd.R_mono (ok' := (fun k_ => ((fun k_ => (w.heap.size ≤ k_) ∧ k_ ≠ gb1300 ∧ k_ ≠ gb1326)) k_ ∧ some k_ ≠ (.slice (some ad1317) x9_2.length co34 : Value).ownBlock)) (Kd.R_types (Kd.R_types (Kd.R_apart' (HO1324.out) (Kd.N_typed HO_9.out) (by decide)) BK1300.out (by decide)) BK1326.out (by decide)) (fun k_ hk => (And.intro ((And.intro (hk.1.1.1.1) ((And.intro (hk.1.2) (hk.2))))) (hk.1.1.2))))))); (case aB => exact ZB); (case aF => exact (fun k_ hk => ⟨(Nat.le_trans (below_size ZB) hk), Kd.freshB (ZK BK1300) k_ hk, Kd.freshB (ZK BK1326) k_ hk⟩)); (case aO => exact (by (with_reducible repeat (first | apply Kd.N_alloc | apply Kd.N_drewN | apply Kd.N_drew)); exact Kd.N_mono HO_9.out (fun _ hk => (And.intro (hk.1) ((And.intro (hk.2.2.2.1) (hk.2.2.2.2))))))); (case aS => exact (below_size ZB)); (case aL => have := LMc33.out; omega); intro v1328 w43 ho hb hg hat; rw [← Ny1327.out] at ho; have n0_ := Aside0.mk (blk_grown (ZK BK1300) hg (Kd.N_away HO_9.out (fun _ hk => hk.2.2.2.1))); have n1_ := Aside0.mk (Kd.V_afterv (ok := (fun k_ => (w.heap.size ≤ k_) ∧ some k_ ≠ (.slice Ao39 t1319.length co39 : Value).ownBlock ∧ some k_ ≠ (.slice Ao40 t1322.length co40 : Value).ownBlock ∧ k_ ≠ gb1300 ∧ k_ ≠ gb1326)) (by (with_reducible repeat (first | apply Kd.V_alloc | apply Kd.V_drewN | apply Kd.V_drew)); exact Kd.V_mono HL1317_1.out (fun _ hk => (And.intro ((And.intro (hk.1) ((And.intro (hk.2.2.1) ((And.intro (hk.2.2.2.1) ((And.intro (hk.2.2.2.2.1) (hk.2.2.2.2.2))))))))) (hk.2.1)))) hg hat); have n2_ := Aside0.mk (Kd.V_afterv (ok := (fun k_ => (w.heap.size ≤ k_) ∧ some k_ ≠ (.slice Ao39 t1319.length co39 : Value).ownBlock ∧ some k_ ≠ (.slice Ao40 t1322.length co40 : Value).ownBlock ∧ k_ ≠ gb1300 ∧ k_ ≠ gb1326)) (by (with_reducible repeat (first | apply Kd.V_alloc | apply Kd.V_drewN | apply Kd.V_drew)); exact Kd.V_mono HL1317_2.out (fun _ hk => (And.intro ((And.intro (hk.1) ((And.intro (hk.2.2.1) ((And.intro (hk.2.2.2.1) ((And.intro (hk.2.2.2.2.1) (hk.2.2.2.2.2))))))))) (hk.2.1)))) hg hat); have n3_ := Aside0.mk (blk_grown (ZK BK1326) hg (Kd.N_away HO_9.out (fun _ hk => hk.2.2.2.2))); have n4_ := Aside0.mk (hb); have n5_ := Aside0.mk (ho); clear BK1300; clear HL1317_1; clear HL1317_2; clear BK1326; clear HB; clear HO_9; clear HO1321; clear HO1324; have BK1300 := n0_; have HL1317_1 := n1_; have HL1317_2 := n2_; have BK1326 := n3_; have HB := n4_; have HO1329 := n5_; clear n0_ n1_ n2_ n3_ n4_ n5_; clear ho hb hg hat))
           go_roundg k2
           case measure => have := HJ3.out; have := HK2.out; omega
           case rel => exact ⟨(y1327), (wrap64 (x32_2 + 1)), (by first | rfl | (simp; done) | (simp [*]; done)), H', ⟨by have := HJ3.out; have := HK2.out; omega⟩, ⟨by (with_reducible repeat (first | apply Kd.N_alloc | apply Kd.N_drewN | apply Kd.N_drew)); exact Kd.N_mono HO1329.out (fun _ hk => (And.intro (hk.1) (hk.2.1)))⟩, ⟨ZK BK1300⟩, ⟨ZB⟩⟩
          ·rw [if_neg c33] at H
           exact absurd H (by simp)
         ·replace c32 := Bool.eq_false_iff.mpr c32
          subst c32
          have H1 : (some (([] : List (S29)), 5)) = some (r1, r2) := by rw [if_neg (show ¬ (false = true) by decide)] at H; exact H
          clear H
          have H := H1
          clear H1
          simp only [Option.some.injEq, Prod.mk.injEq] at H
          obtain ⟨rfl, rfl⟩ := H
          obtain ⟨Ao44, co44, eo44⟩ := Kd.N_slice HO_9.out
          subst eo44
          have p1317 : 0 ≤ (x32_2 : Int) := of_decide_eq_true (by first | (with_reducible assumption) | assumption)
          have q1317 : x32_2 < (x9_2.length : Int) := of_decide_eq_true (by first | (with_reducible assumption) | assumption)
          obtain ⟨ad1317, A1317_1, c1317_1, A1317_2, c1317_2, e1317, hx1317_0, hx1317_1, hx1317_2, hl1317_1, hi1317_1, hl1317_2, hi1317_2⟩ := at_T29 (Kd.N_reads' HO_9.out).2.2 x32_2 p1317 q1317
          cases e1317
          obtain ⟨ce1317, hce1317, hMe1317, hcc1317⟩ := Kd.N_get HO_9.out z29 x32_2 p1317 (by first | exact q1317 | exact of_decide_eq_true (by first | (with_reducible assumption) | assumption) | (have e_ := (Kd.N_reads' HO_9.out).1; omega))
          obtain ⟨ua1317_1, uc1317_1, ua1317_2, uc1317_2, rfl, ul1317_1, ge1317_1, ul1317_2, ge1317_2⟩ := k29_openF hMe1317
          have hv1317_1 := hcc1317 1 _ rfl
          rw [add_field _ _ 1 (by omega)] at hv1317_1
          replace hv1317_1 := Option.some.inj (hv1317_1.symm.trans hx1317_1)
          injection hv1317_1 with hva_ hvn_ hvc_
          rw [hva_] at ge1317_1
          rw [hvc_] at ul1317_1
          have HL1317_1 := Aside0.mk (show Kd.V (Kd.int .i64) 2 _ w.heap.size _ _ ((rd_T29 x9_2 x32_2).f1) from Kd.V_mk ul1317_1 ge1317_1)
          clear hva_ hvn_ hvc_ ge1317_1 ul1317_1
          have hv1317_2 := hcc1317 2 _ rfl
          rw [add_field _ _ 2 (by omega)] at hv1317_2
          replace hv1317_2 := Option.some.inj (hv1317_2.symm.trans hx1317_2)
          injection hv1317_2 with hva_ hvn_ hvc_
          rw [hva_] at ge1317_2
          rw [hvc_] at ul1317_2
          have HL1317_2 := Aside0.mk (show Kd.V (Kd.int .i64) 2 _ w.heap.size _ _ ((rd_T29 x9_2 x32_2).f2) from Kd.V_mk ul1317_2 ge1317_2)
          clear hva_ hvn_ hvc_ ge1317_2 ul1317_2
          clear hcc1317 hce1317
          have HR1317_1 := Aside0.mk hi1317_1
          have HC1317_1 := Aside0.mk hl1317_1
          clear hi1317_1 hl1317_1
          have HR1317_2 := Aside0.mk hi1317_2
          have HC1317_2 := Aside0.mk hl1317_2
          clear hi1317_2 hl1317_2
          replace p1317 := eq_true p1317
          replace q1317 := eq_true q1317
          go_wp2_with (first | ((with_reducible refine gate_callee (f := 66) rfl ?_); refine goesL_ (some 41) rfl rfl Try.func66 (by kernel_rfl) rfl #[.agg #[.int .i64 ((rd_T29 x9_2 x32_2).f0), .slice A1317_1 ((rd_T29 x9_2 x32_2).f1).length c1317_1, .slice A1317_2 ((rd_T29 x9_2 x32_2).f2).length c1317_2], .int .i64 a1] rfl ZA ?_; (with_reducible refine (impl_Jacobi_step.calls k2 ((rd_T29 x9_2 x32_2).f0) _ _ ((rd_T29 x9_2 x32_2).f1) _ _ ((rd_T29 x9_2 x32_2).f2) a1 t1318 t1319 t1322 false _ ?side1 ?side2 ?side3 ?side4 A31.out).mono ?_); (case side1 => repeat (first | exact (by repeat (first | (with_reducible exact HR1317_1.out) | (with_reducible refine Kd.C_alloc ?_ _) | (with_reducible refine Kd.C_drewN ?_ _) | (with_reducible refine Kd.C_drew ?_) | exact HR1317_1.out)) | (with_reducible refine Kd.C_alloc ?_ _) | (with_reducible refine Kd.C_drewN ?_ _) | (with_reducible refine Kd.C_drew ?_))); (case side2 => exact HC1317_1.out); (case side3 => repeat (first | exact (by repeat (first | (with_reducible exact HR1317_2.out) | (with_reducible refine Kd.C_alloc ?_ _) | (with_reducible refine Kd.C_drewN ?_ _) | (with_reducible refine Kd.C_drew ?_) | exact HR1317_2.out)) | (with_reducible refine Kd.C_alloc ?_ _) | (with_reducible refine Kd.C_drewN ?_ _) | (with_reducible refine Kd.C_drew ?_))); (case side4 => exact HC1317_2.out); rintro e w45 ⟨v1320, v1323, rfl, ho0, ho1, hb⟩; refine ⟨_, rfl, ?_⟩; have n0_ := Aside0.mk (Kd.N_mono (Kd.N_told (Kd.N_told (Kd.N_old (by (with_reducible repeat (first | apply Kd.N_alloc | apply Kd.N_drewN | apply Kd.N_drew)); exact HO_9.out) hb) (Kd.R_base ho0)) (Kd.R_base ho1)) (fun _ h_ => h_.1)); have n1_ := Aside0.mk (Kd.V_mono (Kd.V_told (Kd.V_told (Kd.V_old (by (with_reducible repeat (first | apply Kd.V_alloc | apply Kd.V_drewN | apply Kd.V_drew)); exact HL1317_1.out) hb) (Kd.R_base ho0)) (Kd.R_base ho1)) (fun _ h_ => h_.1)); have n2_ := Aside0.mk (Kd.V_mono (Kd.V_told (Kd.V_told (Kd.V_old (by (with_reducible repeat (first | apply Kd.V_alloc | apply Kd.V_drewN | apply Kd.V_drew)); exact HL1317_2.out) hb) (Kd.R_base ho0)) (Kd.R_base ho1)) (fun _ h_ => h_.1)); have n3_ := Aside0.mk (Kd.R_lower (Kd.R_newM (M := fun k_ => (w.heap.size ≤ k_)) ho0 (below_size ZB) (fun k_ h_ => h_)) (below_size ZB)); have n4_ := Aside0.mk (Kd.R_lower (Kd.R_newM (M := fun k_ => (w.heap.size ≤ k_)) ho1 (below_size ZB) (fun k_ h_ => h_)) (below_size ZB)); have n5_ := ZL BK1300 hb; have n6_ := Aside0.mk (Kd.C_below (by repeat (first | (with_reducible exact HR1317_1.out) | (with_reducible refine Kd.C_alloc ?_ _) | (with_reducible refine Kd.C_drewN ?_ _) | (with_reducible refine Kd.C_drew ?_) | exact HR1317_1.out)) hb); have n7_ := Aside0.mk (Kd.C_below (by repeat (first | (with_reducible exact HR1317_2.out) | (with_reducible refine Kd.C_alloc ?_ _) | (with_reducible refine Kd.C_drewN ?_ _) | (with_reducible refine Kd.C_drew ?_) | exact HR1317_2.out)) hb); have n8_ := Aside0.mk (below_step ZB hb); clear HO_9; clear HL1317_1; clear HL1317_2; clear BK1300; clear HR1317_1; clear HR1317_2; clear HB; have HO_9 := n0_; have HL1317_1 := n1_; have HL1317_2 := n2_; have HO1321 := n3_; have HO1324 := n4_; have BK1300 := n5_; have HR1317_1 := n6_; have HR1317_2 := n7_; have HB := n8_; clear n0_ n1_ n2_ n3_ n4_ n5_ n6_ n7_ n8_; (try clear hb); (try clear hb2); (try clear hk); (try clear hi); (try clear ho0); (try clear ho1)) | ((with_reducible refine gate_dst (N := 11) rfl ?_); refine box_event ?hg (N := 11) ?hd (cs := #[.int .i64 0, .slice none 0 0, .slice none 0 0]) (t := 29) ?hr ?_; (case hd => rfl); (case hg => rfl); (case hr => first | (go_simp; done) | (go_simp; rfl)); intro gb1326 hg w46 hbox hb; have n0_ := Aside0.mk (Kd.N_below (Kd.N_elderB (by (with_reducible repeat (first | apply Kd.N_alloc | apply Kd.N_drewN | apply Kd.N_drew)); exact HO_9.out) gb1326 (Nat.le_of_eq hg.symm)) hb); have n1_ := Aside0.mk (Kd.V_below (Kd.V_elderB (by (with_reducible repeat (first | apply Kd.V_alloc | apply Kd.V_drewN | apply Kd.V_drew)); exact HL1317_1.out) gb1326 (Nat.le_of_eq hg.symm)) hb); have n2_ := Aside0.mk (Kd.V_below (Kd.V_elderB (by (with_reducible repeat (first | apply Kd.V_alloc | apply Kd.V_drewN | apply Kd.V_drew)); exact HL1317_2.out) gb1326 (Nat.le_of_eq hg.symm)) hb); have n3_ := Aside0.mk (Kd.R_below (ZR HO1321) hb); have n4_ := Aside0.mk (Kd.R_below (ZR HO1324) hb); have n5_ := ZL BK1300 hb; have n6_ := Aside0.mk (Kd.C_below (by repeat (first | (with_reducible exact HR1317_1.out) | (with_reducible refine Kd.C_alloc ?_ _) | (with_reducible refine Kd.C_drewN ?_ _) | (with_reducible refine Kd.C_drew ?_) | exact HR1317_1.out)) hb); have n7_ := Aside0.mk (Kd.C_below (by repeat (first | (with_reducible exact HR1317_2.out) | (with_reducible refine Kd.C_alloc ?_ _) | (with_reducible refine Kd.C_drewN ?_ _) | (with_reducible refine Kd.C_drew ?_) | exact HR1317_2.out)) hb); have n8_ := Aside0.mk (below_step ZB hb); have n9_ := Aside0.mk (hbox); have n10_ := Aside0.mk ((ZG hg : w.heap.size ≤ gb1326)); have n11_ := Aside0.mk ((ZG hg : w.heap.size ≤ gb1326)); have n12_ := Aside0.mk ((ZN hg BK1300 : gb1300 ≠ gb1326)); have n13_ := Aside0.mk ((ZM hg BK1300 : gb1326 ≠ gb1300)); clear HO_9; clear HL1317_1; clear HL1317_2; clear HO1321; clear HO1324; clear BK1300; clear HR1317_1; clear HR1317_2; clear HB; have HO_9 := n0_; have HL1317_1 := n1_; have HL1317_2 := n2_; have HO1321 := n3_; have HO1324 := n4_; have BK1300 := n5_; have HR1317_1 := n6_; have HR1317_2 := n7_; have HB := n8_; have BK1326 := n9_; have GW1326 := n10_; have GE1326 := n11_; have NB1300_1326 := n12_; have NB1326_1300 := n13_; clear n0_ n1_ n2_ n3_ n4_ n5_ n6_ n7_ n8_ n9_ n10_ n11_ n12_ n13_; clear hb hbox hg; have hnb47 := NB1326_1300.out; have hnc47 := NB1300_1326.out; obtain ⟨hcz48_0, hcz48_1, hcz48_2, hfz48_0, hfz48_1, hfz48_2⟩ := ZD3 BK1326; obtain ⟨Ao49, co49, eo49⟩ := Kd.R_slice HO1321.out; subst eo49; obtain ⟨Ao50, co50, eo50⟩ := Kd.R_slice HO1324.out; subst eo50))
          go_ret2
          exact ⟨_, by first | rfl | (simp [errW_none, errW_some] <;> rfl) | (simp [*, errW_none, errW_some] <;> rfl), by first | exact Kd.S_nil _ _ _ _ _ | exact Kd.N_nil _ _ _ _ _ | exact Kd.V_nil _ _ _ _ _ | exact Kd.Q_nil _ _ _ _ _ | exact Kd.R_nil _ _ _ _ _, ZB⟩
        ·rw [if_neg c30] at H
         exact absurd H (by simp)
       ·rw [if_neg c29] at H
        exact absurd H (by simp)
      ·rw [if_neg c28] at H
       have c28b0 : decide (x32_2 < a2) = false := decide_eq_false c28
       clear c28
       simp only [Option.some.injEq, Prod.mk.injEq] at H
       obtain ⟨rfl, rfl⟩ := H
       go_wp2
       go_ret2
       exact ⟨_, by first | rfl | (simp [errW_none, errW_some] <;> rfl) | (simp [*, errW_none, errW_some] <;> rfl), by (with_reducible repeat (first | apply Kd.N_alloc | apply Kd.N_drewN | apply Kd.N_drew)); exact Kd.N_mono HO_9.out (fun _ hk => hk.1), ZB⟩
   ·rw [if_neg c18] at H
    have c18b0 : (x8_3 == 0) = false := beq_eq_false_iff_ne.mpr c18
    have c18b1 : (x8_3 != 0) = true := bne_iff_ne.mpr c18
    simp only [Option.some.injEq, Prod.mk.injEq] at H
    obtain ⟨rfl, rfl⟩ := H
    go_wp2
    go_ret2
    exact ⟨_, by first | rfl | (simp [errW_none, errW_some] <;> rfl) | (simp [*, errW_none, errW_some] <;> rfl), by first | exact Kd.S_nil _ _ _ _ _ | exact Kd.N_nil _ _ _ _ _ | exact Kd.V_nil _ _ _ _ _ | exact Kd.Q_nil _ _ _ _ _ | exact Kd.R_nil _ _ _ _ _, ZB⟩

end Go.Proofs.Ytaclapojgdekpaa.X
