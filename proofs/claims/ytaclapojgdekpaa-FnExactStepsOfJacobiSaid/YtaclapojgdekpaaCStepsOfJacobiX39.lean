/- Contracts of functions that the law reaches, printed by a program of this session; Lean checks them. -/
import Derived.Test.YtaclapojgdekpaaCStepsOfJacobiX0
import Derived.Test.YtaclapojgdekpaaCStepsOfJacobiX1
import Derived.Test.YtaclapojgdekpaaCStepsOfJacobiX10
import Derived.Test.YtaclapojgdekpaaCStepsOfJacobiX12
import Derived.Test.YtaclapojgdekpaaCStepsOfJacobiX3
import Derived.Test.YtaclapojgdekpaaCStepsOfJacobiXZ
namespace Go.Proofs.Ytaclapojgdekpaa.X
open Go.RowKit Go.Proofs.YtaclapojgdekpaaW.PrintWords Go.Proofs.YtaclapojgdekpaaW.PrintLast Go.Proofs.YtaclapojgdekpaaW.PrintMore
attribute [local go_sem] max2_int min2_int max_two min_two max_three min_three max_four min_four   -- for this text's walks alone
set_option linter.unusedVariables false
set_option linter.unusedSimpArgs false

/-! ### spec_l08Copy: function 88 -/
def spec_l08Copy.f (a0_0 : Int) (l0_1 : List Int) (l0_2 : List Int) : Option (Int × List Int × List Int) := (spec_l01Own.f l0_1).bind fun t1255 => ((spec_l01Own.f l0_2).bind fun t1258 => (some (a0_0, t1255, t1258)))
def spec_l08Copy.T1 : Bool × List (List Nat × List Nat) := (true, [([], []), ([0], [0]), ([], []), ([2], [2]), ([3], [3]), ([], []), ([5], [5]), ([6, 4], [6]), ([1, 4, 7], [1, 4, 7]), ([8, 7, 0, 1, 2, 3, 4, 5, 6, 7, 8], [8])])
def spec_l08Copy.B1 : List Nat := [0, 1, 0, 4, 12, 0, 32, 124, 255, 511]
theorem spec_l08Copy.tab1 : rtab .any (opsOf Try.f88 1) = spec_l08Copy.T1 := by kernel_rfl
theorem spec_l08Copy.bits1 : waitsOk spec_l08Copy.T1.2 spec_l08Copy.B1 = true := by kernel_rfl
set_option maxHeartbeats 8000000 in
set_option maxRecDepth 100000 in
theorem spec_l08Copy.calls (a0_0 : Int) (A0_1 : Option Addr) (c0_1 : Nat) (l0_1 : List Int) (A0_2 : Option Addr) (c0_2 : Nat) (l0_2 : List Int) (r1 : Int) (r2 : List Int) (r3 : List Int) (w : World) (hr0_1 : Kd.C (Kd.int .i64) w A0_1 l0_1.length l0_1) (hc0_1 : l0_1.length ≤ c0_1) (hr0_2 : Kd.C (Kd.int .i64) w A0_2 l0_2.length l0_2) (hc0_2 : l0_2.length ≤ c0_2) (h : spec_l08Copy.f a0_0 l0_1 l0_2 = some (r1, r2, r3)) :
  Calls Try.prog 88 #[.agg #[.int .i64 a0_0, .slice A0_1 l0_1.length c0_1, .slice A0_2 l0_2.length c0_2]] w fun e w' => ∃ v1_ v2_ : Value, e = .returned (.agg #[.int .i64 r1, v1_, v2_]) ∧ Kd.R (Kd.int .i64) 2 w' w.heap.size (fun k_ => some k_ ≠ (v2_ : Value).ownBlock) v1_ r2 ∧ Kd.R (Kd.int .i64) 2 w' w.heap.size (fun k_ => some k_ ≠ (v1_ : Value).ownBlock) v2_ r3 ∧ Below w.heap.size w w' := by
 have hu29 := Try.underlying29
 have HR0_1 := Aside0.mk hr0_1
 have HC0_1 := Aside0.mk hc0_1
 clear hr0_1 hc0_1
 have HR0_2 := Aside0.mk hr0_2
 have HC0_2 := Aside0.mk hc0_2
 clear hr0_2 hc0_2
 have HB := Aside0.mk (Below.refl w.heap.size w)
 have H : ((spec_l01Own.f l0_1).bind fun t1255 => ((spec_l01Own.f l0_2).bind fun t1258 => (some (a0_0, t1255, t1258)))) = some (r1, r2, r3) := h
 clear h
 replace H := Option.bind_eq_some_iff.mp H
 obtain ⟨t1255, A20, H⟩ := H
 replace H : ((spec_l01Own.f l0_2).bind fun t1258 => (some (a0_0, t1255, t1258))) = some (r1, r2, r3) := H
 have A2 := Aside0.mk A20
 clear A20
 replace H := Option.bind_eq_some_iff.mp H
 obtain ⟨t1258, A30, H⟩ := H
 replace H : (some (a0_0, t1255, t1258)) = some (r1, r2, r3) := H
 have A3 := Aside0.mk A30
 clear A30
 simp only [Option.some.injEq, Prod.mk.injEq] at H
 obtain ⟨rfl, rfl, rfl⟩ := H
 go_enter Try.func88, Try.ntmps88
 try go_wp2_with (first | ((with_reducible refine gate_dst (N := 1) rfl ?_); refine box_event ?hg (N := 1) ?hd (cs := #[.int .i64 a0_0, .slice A0_1 l0_1.length c0_1, .slice A0_2 l0_2.length c0_2]) (t := 29) ?hr ?_; (case hd => rfl); (case hg => rfl); (case hr => first | (go_simp; done) | (go_simp; rfl)); intro gb1253 hg w4 hbox hb; have n0_ := Aside0.mk (below_step ZB hb); have n1_ := Aside0.mk (hbox); have n2_ := Aside0.mk ((ZG hg : w.heap.size ≤ gb1253)); have n3_ := Aside0.mk ((ZG hg : w.heap.size ≤ gb1253)); clear HB; have HB := n0_; have BK1253 := n1_; have GW1253 := n2_; have GE1253 := n3_; clear n0_ n1_ n2_ n3_; clear hb hbox hg) | ((with_reducible refine gate_dst (N := 2) rfl ?_); refine box_event ?hg (N := 2) ?hd (cs := #[.int .i64 0, .slice none 0 0, .slice none 0 0]) (t := 29) ?hr ?_; (case hd => rfl); (case hg => rfl); (case hr => first | (go_simp; done) | (go_simp; rfl)); intro gb1254 hg w5 hbox hb; have n0_ := ZL BK1253 hb; have n1_ := Aside0.mk (below_step ZB hb); have n2_ := Aside0.mk (hbox); have n3_ := Aside0.mk ((ZG hg : w.heap.size ≤ gb1254)); have n4_ := Aside0.mk ((ZG hg : w.heap.size ≤ gb1254)); have n5_ := Aside0.mk ((ZN hg BK1253 : gb1253 ≠ gb1254)); have n6_ := Aside0.mk ((ZM hg BK1253 : gb1254 ≠ gb1253)); clear BK1253; clear HB; have BK1253 := n0_; have HB := n1_; have BK1254 := n2_; have GW1254 := n3_; have GE1254 := n4_; have NB1253_1254 := n5_; have NB1254_1253 := n6_; clear n0_ n1_ n2_ n3_ n4_ n5_ n6_; clear hb hbox hg))
 have n0_ := Aside0.mk (blk_drew BK1253.out)
 have n1_ := Aside0.mk (blk_drew BK1254.out)
 have n2_ := Aside0.mk (below_drew1 HB.out)
 clear BK1253
 clear BK1254
 clear HB
 have BK1253 := n0_
 have BK1254 := n1_
 have HB := n2_
 clear n0_ n1_ n2_
 refine start_ (n := 10) (S := fun w' => w'.cell? ⟨gb1253, 0, none⟩ = some (.int .i64 a0_0) ∧ w'.cell? ⟨gb1253, 1, none⟩ = some (.slice A0_1 l0_1.length c0_1) ∧ w'.cell? ⟨gb1253, 2, none⟩ = some (.slice A0_2 l0_2.length c0_2)) (ds := []) #[false, false, false, false, false, false, false, false, false, false] (by kernel_rfl) rfl rfl ⟨(blk_cell BK1253.out 0).trans rfl, (blk_cell BK1253.out 1).trans rfl, (blk_cell BK1253.out 2).trans rfl⟩ (fun hHeld => ?_); refine with_tabW spec_l08Copy.tab1 spec_l08Copy.bits1 (fun HT_ HW_ => ?_)
 generalize w5.drew = w6 at BK1253 BK1254 HB hHeld ⊢
 refine Zpt 0 (some 3) (h := ?_)
 refine Zpt 2 (some 5) (h := ?_)
 refine Zpt 5 (some 8) (h := ?_)
 refine ZtW3 1 (some 4) hHeld (h := ?_)
 refine ZtW3 3 (some 6) hHeld (h := ?_)
 refine ZtW3 6 (some 9) hHeld (h := ?_)
 refine one_ (i := 4) (N := some 7) #[true, true, true, true, true, true, true, false, false, false] rfl rfl (one_of HT_.out (by kernel_rfl)) (by decide) (fun K hK => ?_)
 refine goes_ Try.func56 (by kernel_rfl) rfl #[.slice A0_1 l0_1.length c0_1] (by rfl) rfl rfl ZA ?_
 with_reducible refine (spec_l01Own.calls _ _ l0_1 t1255 _ ?side1 ?side2 A2.out).mono ?_
 (case side1 => exact ZC HR0_1)
 (case side2 => exact HC0_1.out)
 rintro e w7 ⟨v1256, rfl, ho0, hb⟩
 refine ⟨_, rfl, ?_⟩
 have n0_ := Aside0.mk (Kd.R_lower ho0 (below_size ZB))
 have n1_ := ZL BK1253 hb
 have n2_ := ZL BK1254 hb
 have n3_ := Aside0.mk (below_step ZB hb)
 clear BK1253
 clear BK1254
 clear HB
 have HO1257 := n0_
 have BK1253 := n1_
 have BK1254 := n2_
 have HB := n3_
 clear n0_ n1_ n2_ n3_
 (try clear hb)
 (try clear hb2)
 (try clear hk)
 (try clear hi)
 (try clear ho0)
 refine hK.out _ _ ⟨(blk_cell BK1253.out 0).trans rfl, (blk_cell BK1253.out 1).trans rfl, (blk_cell BK1253.out 2).trans rfl⟩ (fun hHeld => ?_)
 clear hK K
 refine norm_ (a' := ?_) ?_ ?_
 rotate_left
 ·show Act.put _ (some 7) _ = _
  simp only [Act.put, List.setIfInBounds_toArray, List.set_cons_zero, List.set_cons_succ, i64_w, i32_w]
  rfl
 refine one_ (i := 7) (N := some 10) #[true, true, true, true, true, true, true, true, false, false] rfl rfl (one_of HT_.out (by kernel_rfl)) (by decide) (fun K hK => ?_)
 refine goes_ Try.func56 (by kernel_rfl) rfl #[.slice A0_2 l0_2.length c0_2] (by rfl) rfl rfl ZA ?_
 with_reducible refine (spec_l01Own.calls _ _ l0_2 t1258 _ ?side1 ?side2 A3.out).mono ?_
 (case side1 => exact ZC HR0_2)
 (case side2 => exact HC0_2.out)
 rintro e w8 ⟨v1259, rfl, ho0, hb⟩
 refine ⟨_, rfl, ?_⟩
 have n0_ := Aside0.mk (Kd.R_elder' (ZR HO1257) (Kd.R_base ho0) hb)
 have n1_ := Aside0.mk (Kd.R_lower (Kd.R_new' ho0 (Kd.R_lt (ZR HO1257))) (below_size ZB))
 have n2_ := ZL BK1253 hb
 have n3_ := ZL BK1254 hb
 have n4_ := Aside0.mk (below_step ZB hb)
 clear HO1257
 clear BK1253
 clear BK1254
 clear HB
 have HO1257 := n0_
 have HO1260 := n1_
 have BK1253 := n2_
 have BK1254 := n3_
 have HB := n4_
 clear n0_ n1_ n2_ n3_ n4_
 (try clear hb)
 (try clear hb2)
 (try clear hk)
 (try clear hi)
 (try clear ho0)
 obtain ⟨Ao9, co9, eo9⟩ := Kd.R_slice HO1260.out
 (first | subst eo9 | (injection eo9 with f1_ f2_ f3_; have f4_ := f1_.symm; have f5_ := f3_.symm; clear f1_ f2_ f3_; subst f4_; subst f5_))
 obtain ⟨Ao10, co10, eo10⟩ := Kd.R_slice HO1257.out
 (first | subst eo10 | (injection eo10 with f1_ f2_ f3_; have f4_ := f1_.symm; have f5_ := f3_.symm; clear f1_ f2_ f3_; subst f4_; subst f5_))
 refine hK.out _ _ ⟨(blk_cell BK1253.out 0).trans rfl, (blk_cell BK1253.out 1).trans rfl, (blk_cell BK1253.out 2).trans rfl⟩ (fun hHeld => ?_)
 clear hK K
 refine norm_ (a' := ?_) ?_ ?_
 rotate_left
 ·show Act.put _ (some 10) _ = _
  simp only [Act.put, List.setIfInBounds_toArray, List.set_cons_zero, List.set_cons_succ, i64_w, i32_w]
  rfl
 refine Zpt 8 (some 11) (h := ?_)
 refine one_ (i := 9) (N := none) #[true, true, true, true, true, true, true, true, true, true] rfl rfl (one_of HT_.out (by kernel_rfl)) (by decide) (fun K hK => ?_)
 have hs11 : w8.cell? ⟨gb1254, 0, none⟩ = some (.int .i64 0) := (blk_cell BK1254.out 0).trans rfl
 have hfs11 := blk_frozen BK1254.out 0
 have hns11_0 := NB1253_1254.out
 have hms11_0 := NB1254_1253.out
 have hs12 : w8.cell? ⟨gb1254, 1, none⟩ = some (.slice none 0 0) := (blk_cell BK1254.out 1).trans rfl
 have hfs12 := blk_frozen BK1254.out 1
 have hns12_0 := NB1253_1254.out
 have hms12_0 := NB1254_1253.out
 have hs13 : w8.cell? ⟨gb1254, 2, none⟩ = some (.slice none 0 0) := (blk_cell BK1254.out 2).trans rfl
 have hfs13 := blk_frozen BK1254.out 2
 have hns13_0 := NB1253_1254.out
 have hms13_0 := NB1254_1253.out
 refine skip_ (w1 := ?_) (by rfl) rfl ?_ ?_
 rotate_left
 ·go_simp
  rfl
 refine hK.out _ _ ⟨((cell_far (p := ⟨gb1254, _, none⟩) NB1253_1254.out _).trans (((cell_far (p := ⟨gb1254, _, none⟩) NB1253_1254.out _).trans (((cell_far (p := ⟨gb1254, _, none⟩) NB1253_1254.out _).trans (hHeld.1)))))), ((cell_far (p := ⟨gb1254, _, none⟩) NB1253_1254.out _).trans (((cell_far (p := ⟨gb1254, _, none⟩) NB1253_1254.out _).trans (((cell_far (p := ⟨gb1254, _, none⟩) NB1253_1254.out _).trans (hHeld.2.1)))))), ((cell_far (p := ⟨gb1254, _, none⟩) NB1253_1254.out _).trans (((cell_far (p := ⟨gb1254, _, none⟩) NB1253_1254.out _).trans (((cell_far (p := ⟨gb1254, _, none⟩) NB1253_1254.out _).trans (hHeld.2.2))))))⟩ (fun hHeld => ?_)
 clear hK K
 refine done_ (done_of HT_.out (by kernel_rfl)) ?_
 try go_wp2
 refine bodyPost_ret (results_cell_row rfl _ _ gb1254 29 #[.int .i64 a0_0, .slice Ao10 t1255.length co10, .slice Ao9 t1258.length co9] (0, 0) _ rfl (by refine ZS ?_; refine blk_put (cs := #[.int .i64 a0_0, .slice Ao10 t1255.length co10, .slice none 0 0]) ?_ 2 _ rfl; refine ZS ?_; refine blk_put (cs := #[.int .i64 a0_0, .slice none 0 0, .slice none 0 0]) ?_ 1 _ rfl; refine ZS ?_; refine blk_put (cs := #[.int .i64 0, .slice none 0 0, .slice none 0 0]) ?_ 0 _ rfl; refine ZS ?_; exact BK1254.out) Try.underlying29 rfl (by kernel_rfl)) rfl ?_
 exact ⟨_, _, by first | rfl | (simp [errW_none, errW_some] <;> rfl) | (simp [*, errW_none, errW_some] <;> rfl), by refine ZQ ?_; exact Kd.R_mono (Kd.R_far (p := ⟨gb1254, 2, none⟩) (Kd.R_far (p := ⟨gb1254, 1, none⟩) (Kd.R_far (p := ⟨gb1254, 0, none⟩) (Kd.R_types HO1257.out BK1254.out (by decide)) (fun _ hk => hk.2) (.int .i64 a0_0)) (fun _ hk => hk.2) (.slice Ao10 t1255.length co10)) (fun _ hk => hk.2) (.slice Ao9 t1258.length co9)) (fun _ hk => hk.1.2), by refine ZQ ?_; exact Kd.R_mono (Kd.R_far (p := ⟨gb1254, 2, none⟩) (Kd.R_far (p := ⟨gb1254, 1, none⟩) (Kd.R_far (p := ⟨gb1254, 0, none⟩) (Kd.R_types HO1260.out BK1254.out (by decide)) (fun _ hk => hk.2) (.int .i64 a0_0)) (fun _ hk => hk.2) (.slice Ao10 t1255.length co10)) (fun _ hk => hk.2) (.slice Ao9 t1258.length co9)) (fun _ hk => hk.1.2), ZB⟩

/-! ### spec_StepsOfJacobi: function 44 -/
mutual
def spec_StepsOfJacobi.j0 : Nat → Int → Int → Int → Bool → Int → List Int → List Int → Option ((List (S29)) × Int)
 | 0, _, _, _, _, _, _, _ => none
 | k + 1, x1, x2, x8, x22, x1262000, x1262001, x1262002 => if x22 = true then (spec_StepsOfJacobi.j1 k x1 x2 2 x1262000 x1262001 x1262002) else (spec_StepsOfJacobi.j1 k x1 x2 x8 x1262000 x1262001 x1262002)
def spec_StepsOfJacobi.j1 : Nat → Int → Int → Int → Int → List Int → List Int → Option ((List (S29)) × Int)
 | 0, _, _, _, _, _, _ => none
 | k + 1, x1, x2, x8, x1262000, x1262001, x1262002 => if x8 = 0 then ((spec_l08Copy.f x1262000 x1262001 x1262002).bind fun bt1267 => (spec_StepsOfJacobi.l0 k x1 x2 (([(⟨bt1267.1, bt1267.2.1, bt1267.2.2⟩ : S29)] : List (S29))))) else (some (([] : List (S29)), x8))
def spec_StepsOfJacobi.l0 : Nat → Int → Int → List (S29) → Option ((List (S29)) × Int)
 | 0, _, _, _ => none
 | k + 1, x1, x2, x9 => if x2 > 0 then (if 0 ≤ (wrap64 ((x9.length : Int) - 1)) then (if (wrap64 ((x9.length : Int) - 1)) < (x9.length : Int) then ((spec_l08Step.f k ((rd_T29 x9 (wrap64 ((x9.length : Int) - 1))).f0) ((rd_T29 x9 (wrap64 ((x9.length : Int) - 1))).f1) ((rd_T29 x9 (wrap64 ((x9.length : Int) - 1))).f2) x1).bind fun bt1278 => (if bt1278.2.2.2 = true then (if x9.length < 2513169434916 then (spec_StepsOfJacobi.l0 k x1 (wrap64 (x2 - 1)) (x9 ++ [(⟨bt1278.1, bt1278.2.1, bt1278.2.2.1⟩ : S29)])) else (none)) else (some (([] : List (S29)), 5)))) else (none)) else (none)) else (some (x9, 0))
end
def spec_StepsOfJacobi.f (k : Nat) (a0_0 : Int) (l0_1 : List Int) (l0_2 : List Int) (a1 : Int) (a2 : Int) : Option ((List (S29)) × Int) := (spec_l08Code.f k a0_0 l0_1 l0_2 0 (([a1] : List Int))).bind fun t1265 => (if t1265 = 0 then ((spec_l01In.f a2 0 12).bind fun t1266 => (spec_StepsOfJacobi.j0 k a1 a2 t1265 (!t1266) a0_0 l0_1 l0_2)) else (spec_StepsOfJacobi.j0 k a1 a2 t1265 false a0_0 l0_1 l0_2))
theorem spec_StepsOfJacobi.mono_l : ∀ k, (∀ y0 y1 y2 y3 y4 y5 y6, LeO (spec_StepsOfJacobi.j0 k y0 y1 y2 y3 y4 y5 y6) (spec_StepsOfJacobi.j0 (k + 1) y0 y1 y2 y3 y4 y5 y6)) ∧ (∀ y0 y1 y2 y3 y4 y5, LeO (spec_StepsOfJacobi.j1 k y0 y1 y2 y3 y4 y5) (spec_StepsOfJacobi.j1 (k + 1) y0 y1 y2 y3 y4 y5)) ∧ (∀ y0 y1 y2, LeO (spec_StepsOfJacobi.l0 k y0 y1 y2) (spec_StepsOfJacobi.l0 (k + 1) y0 y1 y2))
 | 0 => ⟨fun _ _ _ _ _ _ _ r h => by simp [spec_StepsOfJacobi.j0] at h, fun _ _ _ _ _ _ r h => by simp [spec_StepsOfJacobi.j1] at h, fun _ _ _ r h => by simp [spec_StepsOfJacobi.l0] at h⟩
 | k + 1 => by
  obtain ⟨ih0, ih1, ih2⟩ := spec_StepsOfJacobi.mono_l k
  refine ⟨?_, ?_, ?_⟩
  ·intro y0 y1 y2 y3 y4 y5 y6
   unfold spec_StepsOfJacobi.j0
   repeat' first
   | (with_reducible exact ih0 _ _ _ _ _ _ _)
   | (with_reducible exact ih1 _ _ _ _ _ _)
   | (with_reducible exact ih2 _ _ _)
   | (with_reducible exact spec_l08Code.mono _ _ _ _ _ _)
   | (with_reducible exact spec_l08Step.mono _ _ _ _ _)
   | (with_reducible exact LeO.refl _)
   | (with_reducible exact LeO.none _)
   | (with_reducible refine LeO.ite ?_ ?_)
   | (with_reducible refine LeO.bind ?_ (fun _ => ?_))
   | exact ih0 _ _ _ _ _ _ _
   | exact ih1 _ _ _ _ _ _
   | exact ih2 _ _ _
   | exact spec_l08Code.mono _ _ _ _ _ _
   | exact spec_l08Step.mono _ _ _ _ _
   | exact LeO.none _
   | refine LeO.ite ?_ ?_
   | refine LeO.bind ?_ (fun _ => ?_)
  ·intro y0 y1 y2 y3 y4 y5
   unfold spec_StepsOfJacobi.j1
   repeat' first
   | (with_reducible exact ih0 _ _ _ _ _ _ _)
   | (with_reducible exact ih1 _ _ _ _ _ _)
   | (with_reducible exact ih2 _ _ _)
   | (with_reducible exact spec_l08Code.mono _ _ _ _ _ _)
   | (with_reducible exact spec_l08Step.mono _ _ _ _ _)
   | (with_reducible exact LeO.refl _)
   | (with_reducible exact LeO.none _)
   | (with_reducible refine LeO.ite ?_ ?_)
   | (with_reducible refine LeO.bind ?_ (fun _ => ?_))
   | exact ih0 _ _ _ _ _ _ _
   | exact ih1 _ _ _ _ _ _
   | exact ih2 _ _ _
   | exact spec_l08Code.mono _ _ _ _ _ _
   | exact spec_l08Step.mono _ _ _ _ _
   | exact LeO.none _
   | refine LeO.ite ?_ ?_
   | refine LeO.bind ?_ (fun _ => ?_)
  ·intro y0 y1 y2
   unfold spec_StepsOfJacobi.l0
   repeat' first
   | (with_reducible exact ih0 _ _ _ _ _ _ _)
   | (with_reducible exact ih1 _ _ _ _ _ _)
   | (with_reducible exact ih2 _ _ _)
   | (with_reducible exact spec_l08Code.mono _ _ _ _ _ _)
   | (with_reducible exact spec_l08Step.mono _ _ _ _ _)
   | (with_reducible exact LeO.refl _)
   | (with_reducible exact LeO.none _)
   | (with_reducible refine LeO.ite ?_ ?_)
   | (with_reducible refine LeO.bind ?_ (fun _ => ?_))
   | exact ih0 _ _ _ _ _ _ _
   | exact ih1 _ _ _ _ _ _
   | exact ih2 _ _ _
   | exact spec_l08Code.mono _ _ _ _ _ _
   | exact spec_l08Step.mono _ _ _ _ _
   | exact LeO.none _
   | refine LeO.ite ?_ ?_
   | refine LeO.bind ?_ (fun _ => ?_)
theorem spec_StepsOfJacobi.mono : ∀ a0 a1 a2 a3 a4 k, LeO (spec_StepsOfJacobi.f k a0 a1 a2 a3 a4) (spec_StepsOfJacobi.f (k + 1) a0 a1 a2 a3 a4) := by
 intro a0 a1 a2 a3 a4 k
 obtain ⟨ih0, ih1, ih2⟩ := spec_StepsOfJacobi.mono_l k
 unfold spec_StepsOfJacobi.f
 repeat' first
   | (with_reducible exact ih0 _ _ _ _ _ _ _)
   | (with_reducible exact ih1 _ _ _ _ _ _)
   | (with_reducible exact ih2 _ _ _)
   | (with_reducible exact spec_l08Code.mono _ _ _ _ _ _)
   | (with_reducible exact spec_l08Step.mono _ _ _ _ _)
   | (with_reducible exact LeO.refl _)
   | (with_reducible exact LeO.none _)
   | (with_reducible refine LeO.ite ?_ ?_)
   | (with_reducible refine LeO.bind ?_ (fun _ => ?_))
   | exact ih0 _ _ _ _ _ _ _
   | exact ih1 _ _ _ _ _ _
   | exact ih2 _ _ _
   | exact spec_l08Code.mono _ _ _ _ _ _
   | exact spec_l08Step.mono _ _ _ _ _
   | exact LeO.none _
   | refine LeO.ite ?_ ?_
   | refine LeO.bind ?_ (fun _ => ?_)
set_option maxHeartbeats 8000000 in
set_option maxRecDepth 100000 in
theorem spec_StepsOfJacobi.calls (k : Nat) (a0_0 : Int) (A0_1 : Option Addr) (c0_1 : Nat) (l0_1 : List Int) (A0_2 : Option Addr) (c0_2 : Nat) (l0_2 : List Int) (a1 : Int) (a2 : Int) (r1 : List (S29)) (r2 : Int) (w : World) (hr0_1 : Kd.C (Kd.int .i64) w A0_1 l0_1.length l0_1) (hc0_1 : l0_1.length ≤ c0_1) (hr0_2 : Kd.C (Kd.int .i64) w A0_2 l0_2.length l0_2) (hc0_2 : l0_2.length ≤ c0_2) (h : spec_StepsOfJacobi.f k a0_0 l0_1 l0_2 a1 a2 = some (r1, r2)) :
  Calls Try.prog 44 #[.agg #[.int .i64 a0_0, .slice A0_1 l0_1.length c0_1, .slice A0_2 l0_2.length c0_2], .int .i64 a1, .int .i64 a2] w fun e w' => ∃ v0_ : Value, e = .returned (.tuple #[v0_, .int .i64 r2]) ∧ Kd.N k29 29 w' w.heap.size (fun k_ => (w.heap.size ≤ k_)) v0_ r1 ∧ Below w.heap.size w w' := by
 have hu29 := Try.underlying29
 have HR0_1 := Aside0.mk hr0_1
 have HC0_1 := Aside0.mk hc0_1
 clear hr0_1 hc0_1
 have HR0_2 := Aside0.mk hr0_2
 have HC0_2 := Aside0.mk hc0_2
 clear hr0_2 hc0_2
 have HB := Aside0.mk (Below.refl w.heap.size w)
 have H : ((spec_l08Code.f k a0_0 l0_1 l0_2 0 (([a1] : List Int))).bind fun t1265 => (if t1265 = 0 then ((spec_l01In.f a2 0 12).bind fun t1266 => (spec_StepsOfJacobi.j0 k a1 a2 t1265 (!t1266) a0_0 l0_1 l0_2)) else (spec_StepsOfJacobi.j0 k a1 a2 t1265 false a0_0 l0_1 l0_2))) = some (r1, r2) := h
 clear h
 obtain ⟨y1262, hy1262⟩ : ∃ y_ : List Int, y_ = (([a1] : List Int)) := ⟨_, rfl⟩
 replace H : ((spec_l08Code.f k a0_0 l0_1 l0_2 0 y1262).bind fun t1265 => (if t1265 = 0 then ((spec_l01In.f a2 0 12).bind fun t1266 => (spec_StepsOfJacobi.j0 k a1 a2 t1265 (!t1266) a0_0 l0_1 l0_2)) else (spec_StepsOfJacobi.j0 k a1 a2 t1265 false a0_0 l0_1 l0_2))) = some (r1, r2) := by first | (rw [hy1262]; with_reducible exact H) | (have H2_ := (Option.bind_some _ _).symm.trans H; rw [hy1262]; with_reducible exact H2_) | (have H2_ := (Option.bind_some _ _).symm.trans H; with_reducible exact H2_) | with_reducible exact H | (rw [hy1262]; exact H) | exact H
 have Ny1262 := Aside0.mk hy1262
 clear hy1262
 replace H := Option.bind_eq_some_iff.mp H
 obtain ⟨t1265, A40, H⟩ := H
 replace H : (if t1265 = 0 then ((spec_l01In.f a2 0 12).bind fun t1266 => (spec_StepsOfJacobi.j0 k a1 a2 t1265 (!t1266) a0_0 l0_1 l0_2)) else (spec_StepsOfJacobi.j0 k a1 a2 t1265 false a0_0 l0_1 l0_2)) = some (r1, r2) := H
 have A4 := Aside0.mk A40
 clear A40
 have HC5 := Aside0.mk H
 clear H
 go_enter Try.func44, Try.ntmps44
 go_upto_region 2 with (first | ((with_reducible refine gate_dst (N := 3) rfl ?_); refine box_event ?hg (N := 3) ?hd (cs := #[.int .i64 a0_0, .slice A0_1 l0_1.length c0_1, .slice A0_2 l0_2.length c0_2]) (t := 29) ?hr ?_; (case hd => rfl); (case hg => rfl); (case hr => first | (go_simp; done) | (go_simp; rfl)); intro gb1261 hg w6 hbox hb; have n0_ := Aside0.mk (below_step ZB hb); have n1_ := Aside0.mk (hbox); have n2_ := Aside0.mk ((ZG hg : w.heap.size ≤ gb1261)); have n3_ := Aside0.mk ((ZG hg : w.heap.size ≤ gb1261)); clear HB; have HB := n0_; have BK1261 := n1_; have GW1261 := n2_; have GE1261 := n3_; clear n0_ n1_ n2_ n3_; clear hb hbox hg; obtain ⟨hcz7_0, hcz7_1, hcz7_2, hfz7_0, hfz7_1, hfz7_2⟩ := ZD3 BK1261) | ((with_reducible refine gate_dst (N := 14) rfl ?_); refine Kd.R_lit (Kd.int .i64) _ 2 ?hg (N := 14) ?hd (xs := ([a1] : List Int)) (inner := [.int .i64 a1]) (ok := fun _ => True) (okp := fun _ => True) ?hr ?hp (fun _ hk => hk) trivial (Below.refl _ _) (Nat.le_refl _) (by simp) ?_; (case hd => rfl); (case hg => rfl); (case hr => first | (go_simp; done) | (go_simp; rfl)); (case hp => exact (Reps.one (show Kd.M (Kd.int .i64) _ _ _ a1 [.int .i64 a1] from rfl) (Reps.none _ _))); intro v1263 w8 ho9 hb hg_ hnew_; clear hg_ hnew_; (first | rw [← Ny1262.out] at ho9 | (simp only [Int.reduceToNat] at ho9; rw [← Ny1262.out] at ho9)); have n0_ := Aside0.mk (Kd.R_lower (Kd.R_newM (M := fun k_ => (w.heap.size ≤ k_)) ho9 (below_size ZB) (fun k_ h_ => h_)) (below_size ZB)); have n1_ := ZL BK1261 hb; have n2_ := Aside0.mk (below_step ZB hb); clear BK1261; clear HB; have HO1264 := n0_; have BK1261 := n1_; have HB := n2_; clear n0_ n1_ n2_; clear hb ho9; obtain ⟨Ao10, co10, eo10⟩ := Kd.R_slice HO1264.out; subst eo10) | ((with_reducible refine gate_callee (f := 62) rfl ?_); refine goesL_ (some 15) rfl rfl Try.func62 (by kernel_rfl) rfl #[.agg #[.int .i64 a0_0, .slice A0_1 l0_1.length c0_1, .slice A0_2 l0_2.length c0_2], .int .i64 0, .slice Ao10 y1262.length co10] rfl ZA ?_; (with_reducible refine (spec_l08Code.calls k a0_0 _ _ l0_1 _ _ l0_2 0 _ _ y1262 t1265 _ ?side1 ?side2 ?side3 ?side4 ?side5 ?side6 A4.out).mono ?_); (case side1 => exact ZC HR0_1); (case side2 => exact HC0_1.out); (case side3 => exact ZC HR0_2); (case side4 => exact HC0_2.out); (case side5 => repeat (first | exact (Kd.R_reads' HO1264.out).2.2 | (with_reducible refine Kd.C_alloc ?_ _) | (with_reducible refine Kd.C_drewN ?_ _) | (with_reducible refine Kd.C_drew ?_))); (case side6 => exact (Kd.R_reads' HO1264.out).2.1); rintro e w11 ⟨rfl, hb⟩; refine ⟨_, rfl, ?_⟩; have n0_ := Aside0.mk (Kd.R_below (ZR HO1264) hb); have n1_ := ZL BK1261 hb; have n2_ := Aside0.mk (below_step ZB hb); clear HO1264; clear BK1261; clear HB; have HO1264 := n0_; have BK1261 := n1_; have HB := n2_; clear n0_ n1_ n2_; (try clear hb); (try clear hb2); (try clear hk); (try clear hi)))
 (try simp only [Act.put, List.setIfInBounds_toArray, List.set_cons_zero, List.set_cons_succ])
 go_cut [22] (fun v22 wc => ∃ (kq : Nat) (x22_4 : Bool), v22 = .bool x22_4 ∧ Aside0 (spec_StepsOfJacobi.j0 kq a1 a2 t1265 x22_4 a0_0 l0_1 l0_2 = some (r1, r2)) ∧ Aside0 (kq ≤ k) ∧ Aside0 (wc.heap[gb1261]? = some (.cells #[.int .i64 a0_0, (.slice A0_1 l0_1.length c0_1), (.slice A0_2 l0_2.length c0_2)] 29 (0, 0))) ∧ Aside0 (Below w.heap.size w wc))
 case first =>
  have H := HC5.out
  clear HC5
  by_cases c12 : t1265 = 0
  ·rw [if_pos c12] at H
   have c12b0 : (t1265 == 0) = true := beq_iff_eq.mpr c12
   have c12b1 : (t1265 != 0) = false := bne_eq_false_iff_eq.mpr c12
   clear c12
   (first | rw [c12b0] | (simp only [i64_w, i32_w]; rw [c12b0]) | skip)
   replace H := Option.bind_eq_some_iff.mp H
   obtain ⟨t1266, A130, H⟩ := H
   replace H : (spec_StepsOfJacobi.j0 k a1 a2 t1265 (!t1266) a0_0 l0_1 l0_2) = some (r1, r2) := H
   have A13 := Aside0.mk A130
   clear A130
   have H' := Aside0.mk H
   clear H
   go_wp2_with (first | (go_at_call 83; (with_reducible refine (spec_l01In.calls a2 0 12 t1266 _ A13.out).mono ?_); rintro e w' ⟨rfl, ⟨nd, rfl⟩⟩))
   go_meet
   case rel => exact ⟨_, (!t1266), (by first | rfl | (simp; done) | (simp [*]; done)), H', ⟨by first | omega | exact Nat.le_refl _⟩, ⟨ZK BK1261⟩, ⟨ZB⟩⟩
  ·rw [if_neg c12] at H
   have c12b0 : (t1265 == 0) = false := beq_eq_false_iff_ne.mpr c12
   have c12b1 : (t1265 != 0) = true := bne_iff_ne.mpr c12
   (first | rw [c12b0] | (simp only [i64_w, i32_w]; rw [c12b0]) | skip)
   have H' := Aside0.mk H
   clear H
   go_wp2
   go_meet
   case rel => exact ⟨_, (false), (by first | rfl | (simp; done) | (simp [*]; done)), H', ⟨by first | omega | exact Nat.le_refl _⟩, ⟨ZK BK1261⟩, ⟨ZB⟩⟩
 case rest =>
  clear HC5
  try clear c1
  try clear p2
  try clear c4
  try clear c6
  try clear c12
  try clear c12b0
  try clear c12b1
  try clear hcz7_0
  try clear hcz7_1
  try clear hcz7_2
  try clear hfz7_0
  try clear hfz7_1
  try clear hfz7_2
  obtain ⟨kq, x22_4, rfl, HA, HJ4, BK1261, HB⟩ := hcut
  cases kq with
  | zero => exact absurd HA.out (by simp [spec_StepsOfJacobi.j0])
  | succ kj4 =>
   have H := HA.out
   clear HA
   simp only [spec_StepsOfJacobi.j0] at H
   have HC14 := Aside0.mk H
   clear H
   go_upto_if 22 with (fail)
   go_cut [8] (fun v8 wc => ∃ (kq : Nat) (x8_13 : Int), v8 = .int .i64 x8_13 ∧ Aside0 (spec_StepsOfJacobi.j1 kq a1 a2 x8_13 a0_0 l0_1 l0_2 = some (r1, r2)) ∧ Aside0 (kq ≤ kj4) ∧ Aside0 (wc.heap[gb1261]? = some (.cells #[.int .i64 a0_0, (.slice A0_1 l0_1.length c0_1), (.slice A0_2 l0_2.length c0_2)] 29 (0, 0))) ∧ Aside0 (Below w.heap.size w wc))
   case first =>
    have H := HC14.out
    clear HC14
    by_cases c15 : x22_4 = true
    ·subst c15
     have H1 : (spec_StepsOfJacobi.j1 kj4 a1 a2 2 a0_0 l0_1 l0_2) = some (r1, r2) := by rw [if_pos rfl] at H; exact H
     clear H
     have H := H1
     clear H1
     have H' := Aside0.mk H
     clear H
     go_wp2
     go_meet
     case rel => exact ⟨_, (2), (by first | rfl | (simp; done) | (simp [*]; done)), H', ⟨by have := HJ4.out; first | omega | exact Nat.le_refl _⟩, ⟨ZK BK1261⟩, ⟨ZB⟩⟩
    ·replace c15 := Bool.eq_false_iff.mpr c15
     subst c15
     have H1 : (spec_StepsOfJacobi.j1 kj4 a1 a2 t1265 a0_0 l0_1 l0_2) = some (r1, r2) := by rw [if_neg (show ¬ (false = true) by decide)] at H; exact H
     clear H
     have H := H1
     clear H1
     have H' := Aside0.mk H
     clear H
     go_wp2
     go_meet
     case rel => exact ⟨_, (t1265), (by first | rfl | (simp; done) | (simp [*]; done)), H', ⟨by have := HJ4.out; first | omega | exact Nat.le_refl _⟩, ⟨ZK BK1261⟩, ⟨ZB⟩⟩
   case rest =>
    clear HC14
    try clear c1
    try clear p2
    try clear c4
    try clear c6
    try clear c12
    try clear c12b0
    try clear c12b1
    try clear c15
    try clear hcz7_0
    try clear hcz7_1
    try clear hcz7_2
    try clear hfz7_0
    try clear hfz7_1
    try clear hfz7_2
    try clear p2
    obtain ⟨kq, x8_13, rfl, HA, HJ13, BK1261, HB⟩ := hcut
    cases kq with
    | zero => exact absurd HA.out (by simp [spec_StepsOfJacobi.j1])
    | succ kj13 =>
     have H := HA.out
     clear HA
     simp only [spec_StepsOfJacobi.j1] at H
     by_cases c16 : x8_13 = 0
     ·rw [if_pos c16] at H
      have c16b0 : (x8_13 == 0) = true := beq_iff_eq.mpr c16
      have c16b1 : (x8_13 != 0) = false := bne_eq_false_iff_eq.mpr c16
      clear c16
      replace H := Option.bind_eq_some_iff.mp H
      obtain ⟨⟨t1267, t1268, t1271⟩, A170, H⟩ := H
      replace H : (spec_StepsOfJacobi.l0 kj13 a1 a2 (([(⟨t1267, t1268, t1271⟩ : S29)] : List (S29)))) = some (r1, r2) := H
      have A17 := Aside0.mk A170
      clear A170
      obtain ⟨y1274, hy1274⟩ : ∃ y_ : List (S29), y_ = (([(⟨t1267, t1268, t1271⟩ : S29)] : List (S29))) := ⟨_, rfl⟩
      replace H : (spec_StepsOfJacobi.l0 kj13 a1 a2 y1274) = some (r1, r2) := by first | (rw [hy1274]; with_reducible exact H) | (have H2_ := (Option.bind_some _ _).symm.trans H; rw [hy1274]; with_reducible exact H2_) | (have H2_ := (Option.bind_some _ _).symm.trans H; with_reducible exact H2_) | with_reducible exact H | (rw [hy1274]; exact H) | exact H
      have Ny1274 := Aside0.mk hy1274
      clear hy1274
      have H' := Aside0.mk H
      clear H
      obtain ⟨hcz18_0, hcz18_1, hcz18_2, hfz18_0, hfz18_1, hfz18_2⟩ := ZD3 BK1261
      go_wp2_with (first | ((with_reducible refine gate_callee (f := 88) rfl ?_); refine goesL_ (some 27) rfl rfl Try.func88 (by kernel_rfl) rfl #[.agg #[.int .i64 a0_0, .slice A0_1 l0_1.length c0_1, .slice A0_2 l0_2.length c0_2]] rfl ZA ?_; (with_reducible refine (spec_l08Copy.calls a0_0 _ _ l0_1 _ _ l0_2 t1267 t1268 t1271 _ ?side1 ?side2 ?side3 ?side4 A17.out).mono ?_); (case side1 => exact ZC HR0_1); (case side2 => exact HC0_1.out); (case side3 => exact ZC HR0_2); (case side4 => exact HC0_2.out); rintro e w19 ⟨v1269, v1272, rfl, ho0, ho1, hb⟩; refine ⟨_, rfl, ?_⟩; have n0_ := Aside0.mk (Kd.R_lower (Kd.R_newM (M := fun k_ => (w.heap.size ≤ k_)) ho0 (below_size ZB) (fun k_ h_ => h_)) (below_size ZB)); have n1_ := Aside0.mk (Kd.R_lower (Kd.R_newM (M := fun k_ => (w.heap.size ≤ k_)) ho1 (below_size ZB) (fun k_ h_ => h_)) (below_size ZB)); have n2_ := ZL BK1261 hb; have n3_ := Aside0.mk (below_step ZB hb); clear BK1261; clear HB; have HO1270 := n0_; have HO1273 := n1_; have BK1261 := n2_; have HB := n3_; clear n0_ n1_ n2_ n3_; (try clear hb); (try clear hb2); (try clear hk); (try clear hi); (try clear ho0); (try clear ho1); obtain ⟨Ao20, co20, eo20⟩ := Kd.R_slice HO1270.out; subst eo20; obtain ⟨Ao21, co21, eo21⟩ := Kd.R_slice HO1273.out; subst eo21) | ((with_reducible refine gate_dst (N := 28) rfl ?_); refine Kd.N_lit k29 _ 29 ?hg (N' := 28) ?hd (xs := ([(⟨t1267, t1268, t1271⟩ : S29)] : List (S29))) (inner := [.int .i64 t1267, .slice Ao20 t1268.length co20, .slice Ao21 t1271.length co21]) (ok := (fun k_ => (w.heap.size ≤ k_) ∧ k_ ≠ gb1261)) (okp := (fun k_ => (w.heap.size ≤ k_) ∧ k_ ≠ gb1261)) ?hr ?hp (fun _ hk => hk) ((show ∀ k_, w19.heap.size ≤ k_ → (fun k_ => (w.heap.size ≤ k_) ∧ k_ ≠ gb1261) k_ from fun k_ hk => ⟨(Nat.le_trans (below_size ZB) hk), Kd.freshB (ZK BK1261) k_ hk⟩) _ (Nat.le_refl _)) (Below.refl _ _) (Nat.le_refl _) (by simp) ?_; (case hd => rfl); (case hg => rfl); (case hr => first | (go_simp; done) | (go_simp; rfl)); (case hp => exact (Reps.c3 (show Kd.FK k29 _ _ (⟨t1267, t1268, t1271⟩ : S29) [.int .i64 t1267, .slice Ao20 t1268.length co20, .slice Ao21 t1271.length co21] from (k29_mkF _ _ (⟨t1267, t1268, t1271⟩ : S29) (Kd.R_reads' (Kd.R_mono (ok' := (fun k_ => (w.heap.size ≤ k_) ∧ k_ ≠ gb1261)) (Kd.R_types (HO1270.out) BK1261.out (by decide)) (fun k_ hk => (And.intro (hk.1.1) (hk.2))))).2.1 (Kd.R_F (Kd.R_mono (ok' := (fun k_ => (w.heap.size ≤ k_) ∧ k_ ≠ gb1261)) (Kd.R_types (HO1270.out) BK1261.out (by decide)) (fun k_ hk => (And.intro (hk.1.1) (hk.2))))) (Kd.R_reads' (Kd.R_mono (ok' := (fun k_ => (w.heap.size ≤ k_) ∧ k_ ≠ gb1261)) (Kd.R_types (HO1273.out) BK1261.out (by decide)) (fun k_ hk => (And.intro (hk.1.1) (hk.2))))).2.1 (Kd.R_F (Kd.R_mono (ok' := (fun k_ => (w.heap.size ≤ k_) ∧ k_ ≠ gb1261)) (Kd.R_types (HO1273.out) BK1261.out (by decide)) (fun k_ hk => (And.intro (hk.1.1) (hk.2))))))) (Reps.none _ _))); intro v1275 w22 ho23 hb hg_ hnew_; clear hg_ hnew_; (first | rw [← Ny1274.out] at ho23 | (simp only [Int.reduceToNat] at ho23; rw [← Ny1274.out] at ho23)); have n0_ := Aside0.mk (Kd.N_lower ho23 (below_size ZB)); have n1_ := ZL BK1261 hb; have n2_ := Aside0.mk (below_step ZB hb); clear BK1261; clear HB; clear HO1270; clear HO1273; have HO1276 := n0_; have BK1261 := n1_; have HB := n2_; clear n0_ n1_ n2_; clear hb ho23))
      go_loopg [2, 9] kj13 (fun kq v2 v9 w' => ∃ (x2_3 : Int) (x9_3 : List (S29)), v2 = .int .i64 x2_3 ∧ Aside0 (spec_StepsOfJacobi.l0 kq a1 x2_3 x9_3 = some (r1, r2)) ∧ Aside0 (kq ≤ kj13) ∧ Aside0 (Kd.N k29 29 w' w.heap.size (fun k_ => (w.heap.size ≤ k_) ∧ k_ ≠ gb1261) v9 x9_3) ∧ Aside0 (w'.heap[gb1261]? = some (.cells #[.int .i64 a0_0, (.slice A0_1 l0_1.length c0_1), (.slice A0_2 l0_2.length c0_2)] 29 (0, 0))) ∧ Aside0 (Below w.heap.size w w'))
      case atStart => exact ⟨(a2), (y1274), (by first | rfl | (simp; done) | (simp [*]; done)), H', ⟨Nat.le_refl _⟩, ⟨by (with_reducible repeat (first | apply Kd.N_alloc | apply Kd.N_drewN | apply Kd.N_drew)); exact HO1276.out⟩, ⟨ZK BK1261⟩, ⟨ZB⟩⟩
      case round =>
       clear H'
       try clear c1
       try clear p2
       try clear c3
       try clear c4
       try clear c6
       try clear c8
       try clear c12
       try clear c12b0
       try clear c12b1
       try clear c15
       try clear c16
       try clear c16b0
       try clear c16b1
       try clear hcz18_0
       try clear hcz18_1
       try clear hcz18_2
       try clear hcz7_0
       try clear hcz7_1
       try clear hcz7_2
       try clear hfz18_0
       try clear hfz18_1
       try clear hfz18_2
       try clear hfz7_0
       try clear hfz7_1
       try clear hfz7_2
       try clear p2
       obtain ⟨x2_3, x9_3, rfl, HA, HK3, HO_9, BK1261, HB⟩ := hrel
       cases gk with
       | zero => exact absurd HA.out (by simp [spec_StepsOfJacobi.l0])
       | succ k3 =>
        have H := HA.out
        clear HA
        simp only [spec_StepsOfJacobi.l0] at H
        by_cases c24 : x2_3 > 0
        ·rw [if_pos c24] at H
         have c24b0 : decide (0 < x2_3) = true := decide_eq_true c24
         clear c24
         obtain ⟨ji25, hji25⟩ : ∃ j_ : Int, (wrap64 ((x9_3.length : Int) - 1)) = j_ := ⟨_, rfl⟩
         replace H : (if 0 ≤ (ji25) then (if (ji25) < (x9_3.length : Int) then ((spec_l08Step.f k3 ((rd_T29 x9_3 (ji25)).f0) ((rd_T29 x9_3 (ji25)).f1) ((rd_T29 x9_3 (ji25)).f2) a1).bind fun bt1278 => (if bt1278.2.2.2 = true then (if x9_3.length < 2513169434916 then (spec_StepsOfJacobi.l0 k3 a1 (wrap64 (x2_3 - 1)) (x9_3 ++ [(⟨bt1278.1, bt1278.2.1, bt1278.2.2.1⟩ : S29)])) else (none)) else (some (([] : List (S29)), 5)))) else (none)) else (none)) = some (r1, r2) := by first | (rw [hji25] at H; exact H) | (simp only [hji25] at H ⊢; exact H)
         have hji25w : (IntKind.i64.wrap ((x9_3.length : Int) - 1)) = ji25 := (i64_w _).trans hji25
         by_cases c26 : 0 ≤ (ji25)
         ·rw [if_pos c26] at H
          have c26b0 : decide (0 ≤ (ji25)) = true := decide_eq_true c26
          clear c26
          by_cases c27 : (ji25) < (x9_3.length : Int)
          ·rw [if_pos c27] at H
           have c27b0 : decide ((ji25) < (x9_3.length : Int)) = true := decide_eq_true c27
           clear c27
           replace H := Option.bind_eq_some_iff.mp H
           obtain ⟨⟨t1278, t1279, t1282, t1285⟩, A280, H⟩ := H
           replace H : (if t1285 = true then (if x9_3.length < 2513169434916 then (spec_StepsOfJacobi.l0 k3 a1 (wrap64 (x2_3 - 1)) (x9_3 ++ [(⟨t1278, t1279, t1282⟩ : S29)])) else (none)) else (some (([] : List (S29)), 5))) = some (r1, r2) := H
           have A28 := Aside0.mk A280
           clear A280
           by_cases c29 : t1285 = true
           ·subst c29
            have H1 : (if x9_3.length < 2513169434916 then (spec_StepsOfJacobi.l0 k3 a1 (wrap64 (x2_3 - 1)) (x9_3 ++ [(⟨t1278, t1279, t1282⟩ : S29)])) else (none)) = some (r1, r2) := by rw [if_pos rfl] at H; exact H
            clear H
            have H := H1
            clear H1
            by_cases c30 : x9_3.length < 2513169434916
            ·rw [if_pos c30] at H
             have LMc30 := Aside0.mk c30
             clear c30
             obtain ⟨y1287, hy1287⟩ : ∃ y_ : List (S29), y_ = (x9_3 ++ [(⟨t1278, t1279, t1282⟩ : S29)]) := ⟨_, rfl⟩
             replace H : (spec_StepsOfJacobi.l0 k3 a1 (wrap64 (x2_3 - 1)) y1287) = some (r1, r2) := by first | (rw [hy1287]; with_reducible exact H) | (have H2_ := (Option.bind_some _ _).symm.trans H; rw [hy1287]; with_reducible exact H2_) | (have H2_ := (Option.bind_some _ _).symm.trans H; with_reducible exact H2_) | with_reducible exact H | (rw [hy1287]; exact H) | exact H
             have Ny1287 := Aside0.mk hy1287
             clear hy1287
             have H' := Aside0.mk H
             clear H
             obtain ⟨Ao31, co31, eo31⟩ := Kd.N_slice HO_9.out
             subst eo31
             have p1277 : 0 ≤ ((ji25) : Int) := of_decide_eq_true (by first | (with_reducible assumption) | assumption)
             have q1277 : (ji25) < (x9_3.length : Int) := of_decide_eq_true (by first | (with_reducible assumption) | assumption)
             obtain ⟨ad1277, A1277_1, c1277_1, A1277_2, c1277_2, e1277, hx1277_0, hx1277_1, hx1277_2, hl1277_1, hi1277_1, hl1277_2, hi1277_2⟩ := at_T29 (Kd.N_reads' HO_9.out).2.2 (ji25) p1277 q1277
             cases e1277
             obtain ⟨ce1277, hce1277, hMe1277, hcc1277⟩ := Kd.N_get HO_9.out z29 (ji25) p1277 (by first | exact q1277 | exact of_decide_eq_true (by first | (with_reducible assumption) | assumption) | (have e_ := (Kd.N_reads' HO_9.out).1; omega))
             obtain ⟨ua1277_1, uc1277_1, ua1277_2, uc1277_2, rfl, ul1277_1, ge1277_1, ul1277_2, ge1277_2⟩ := k29_openF hMe1277
             have hv1277_1 := hcc1277 1 _ rfl
             rw [add_field _ _ 1 (by omega)] at hv1277_1
             replace hv1277_1 := Option.some.inj (hv1277_1.symm.trans hx1277_1)
             injection hv1277_1 with hva_ hvn_ hvc_
             rw [hva_] at ge1277_1
             rw [hvc_] at ul1277_1
             have HL1277_1 := Aside0.mk (show Kd.V (Kd.int .i64) 2 _ w.heap.size _ _ ((rd_T29 x9_3 (ji25)).f1) from Kd.V_mk ul1277_1 ge1277_1)
             clear hva_ hvn_ hvc_ ge1277_1 ul1277_1
             have hv1277_2 := hcc1277 2 _ rfl
             rw [add_field _ _ 2 (by omega)] at hv1277_2
             replace hv1277_2 := Option.some.inj (hv1277_2.symm.trans hx1277_2)
             injection hv1277_2 with hva_ hvn_ hvc_
             rw [hva_] at ge1277_2
             rw [hvc_] at ul1277_2
             have HL1277_2 := Aside0.mk (show Kd.V (Kd.int .i64) 2 _ w.heap.size _ _ ((rd_T29 x9_3 (ji25)).f2) from Kd.V_mk ul1277_2 ge1277_2)
             clear hva_ hvn_ hvc_ ge1277_2 ul1277_2
             clear hcc1277 hce1277
             have HR1277_1 := Aside0.mk hi1277_1
             have HC1277_1 := Aside0.mk hl1277_1
             clear hi1277_1 hl1277_1
             have HR1277_2 := Aside0.mk hi1277_2
             have HC1277_2 := Aside0.mk hl1277_2
             clear hi1277_2 hl1277_2
             replace p1277 := eq_true p1277
             replace q1277 := eq_true q1277
             go_wp2_with (first | ((with_reducible refine gate_callee (f := 63) rfl ?_); refine goesL_ (some 41) rfl rfl Try.func63 (by kernel_rfl) rfl #[.agg #[.int .i64 ((rd_T29 x9_3 (ji25)).f0), .slice A1277_1 ((rd_T29 x9_3 (ji25)).f1).length c1277_1, .slice A1277_2 ((rd_T29 x9_3 (ji25)).f2).length c1277_2], .int .i64 a1] rfl (by (try simp only [List.map_toArray, List.map_cons, List.map_nil]); first | done | (simp only [hji25]; rfl) | rfl | (simp only [List.length_drop, List.length_take]; rfl)) ?_; (with_reducible refine (spec_l08Step.calls k3 ((rd_T29 x9_3 (ji25)).f0) _ _ ((rd_T29 x9_3 (ji25)).f1) _ _ ((rd_T29 x9_3 (ji25)).f2) a1 t1278 t1279 t1282 true _ ?side1 ?side2 ?side3 ?side4 A28.out).mono ?_); (case side1 => repeat (first | exact (by repeat (first | (with_reducible exact HR1277_1.out) | (with_reducible refine Kd.C_alloc ?_ _) | (with_reducible refine Kd.C_drewN ?_ _) | (with_reducible refine Kd.C_drew ?_) | exact HR1277_1.out)) | (with_reducible refine Kd.C_alloc ?_ _) | (with_reducible refine Kd.C_drewN ?_ _) | (with_reducible refine Kd.C_drew ?_))); (case side2 => exact HC1277_1.out); (case side3 => repeat (first | exact (by repeat (first | (with_reducible exact HR1277_2.out) | (with_reducible refine Kd.C_alloc ?_ _) | (with_reducible refine Kd.C_drewN ?_ _) | (with_reducible refine Kd.C_drew ?_) | exact HR1277_2.out)) | (with_reducible refine Kd.C_alloc ?_ _) | (with_reducible refine Kd.C_drewN ?_ _) | (with_reducible refine Kd.C_drew ?_))); (case side4 => exact HC1277_2.out); rintro e w32 ⟨v1280, v1283, rfl, ho0, ho1, hb⟩; refine ⟨_, rfl, ?_⟩; have n0_ := Aside0.mk (Kd.N_mono (Kd.N_told (Kd.N_told (Kd.N_old (by (with_reducible repeat (first | apply Kd.N_alloc | apply Kd.N_drewN | apply Kd.N_drew)); exact HO_9.out) hb) (Kd.R_base ho0)) (Kd.R_base ho1)) (fun _ h_ => h_.1)); have n1_ := Aside0.mk (Kd.V_mono (Kd.V_told (Kd.V_told (Kd.V_old (by (with_reducible repeat (first | apply Kd.V_alloc | apply Kd.V_drewN | apply Kd.V_drew)); exact HL1277_1.out) hb) (Kd.R_base ho0)) (Kd.R_base ho1)) (fun _ h_ => h_.1)); have n2_ := Aside0.mk (Kd.V_mono (Kd.V_told (Kd.V_told (Kd.V_old (by (with_reducible repeat (first | apply Kd.V_alloc | apply Kd.V_drewN | apply Kd.V_drew)); exact HL1277_2.out) hb) (Kd.R_base ho0)) (Kd.R_base ho1)) (fun _ h_ => h_.1)); have n3_ := Aside0.mk (Kd.R_lower (Kd.R_newM (M := fun k_ => (w.heap.size ≤ k_)) ho0 (below_size ZB) (fun k_ h_ => h_)) (below_size ZB)); have n4_ := Aside0.mk (Kd.R_lower (Kd.R_newM (M := fun k_ => (w.heap.size ≤ k_)) ho1 (below_size ZB) (fun k_ h_ => h_)) (below_size ZB)); have n5_ := ZL BK1261 hb; have n6_ := Aside0.mk (Kd.C_below (by repeat (first | (with_reducible exact HR1277_1.out) | (with_reducible refine Kd.C_alloc ?_ _) | (with_reducible refine Kd.C_drewN ?_ _) | (with_reducible refine Kd.C_drew ?_) | exact HR1277_1.out)) hb); have n7_ := Aside0.mk (Kd.C_below (by repeat (first | (with_reducible exact HR1277_2.out) | (with_reducible refine Kd.C_alloc ?_ _) | (with_reducible refine Kd.C_drewN ?_ _) | (with_reducible refine Kd.C_drew ?_) | exact HR1277_2.out)) hb); have n8_ := Aside0.mk (below_step ZB hb); clear HO_9; clear HL1277_1; clear HL1277_2; clear BK1261; clear HR1277_1; clear HR1277_2; clear HB; have HO_9 := n0_; have HL1277_1 := n1_; have HL1277_2 := n2_; have HO1281 := n3_; have HO1284 := n4_; have BK1261 := n5_; have HR1277_1 := n6_; have HR1277_2 := n7_; have HB := n8_; clear n0_ n1_ n2_ n3_ n4_ n5_ n6_ n7_ n8_; (try clear hb); (try clear hb2); (try clear hk); (try clear hi); (try clear ho0); (try clear ho1)) | ((with_reducible refine gate_dst (N := 10) rfl ?_); refine box_event ?hg (N := 10) ?hd (cs := #[.int .i64 0, .slice none 0 0, .slice none 0 0]) (t := 29) ?hr ?_; (case hd => rfl); (case hg => rfl); (case hr => first | (go_simp; done) | (go_simp; rfl)); intro gb1286 hg w33 hbox hb; have n0_ := Aside0.mk (Kd.N_below (Kd.N_elderB (by (with_reducible repeat (first | apply Kd.N_alloc | apply Kd.N_drewN | apply Kd.N_drew)); exact HO_9.out) gb1286 (Nat.le_of_eq hg.symm)) hb); have n1_ := Aside0.mk (Kd.V_below (Kd.V_elderB (by (with_reducible repeat (first | apply Kd.V_alloc | apply Kd.V_drewN | apply Kd.V_drew)); exact HL1277_1.out) gb1286 (Nat.le_of_eq hg.symm)) hb); have n2_ := Aside0.mk (Kd.V_below (Kd.V_elderB (by (with_reducible repeat (first | apply Kd.V_alloc | apply Kd.V_drewN | apply Kd.V_drew)); exact HL1277_2.out) gb1286 (Nat.le_of_eq hg.symm)) hb); have n3_ := Aside0.mk (Kd.R_below (ZR HO1281) hb); have n4_ := Aside0.mk (Kd.R_below (ZR HO1284) hb); have n5_ := ZL BK1261 hb; have n6_ := Aside0.mk (Kd.C_below (by repeat (first | (with_reducible exact HR1277_1.out) | (with_reducible refine Kd.C_alloc ?_ _) | (with_reducible refine Kd.C_drewN ?_ _) | (with_reducible refine Kd.C_drew ?_) | exact HR1277_1.out)) hb); have n7_ := Aside0.mk (Kd.C_below (by repeat (first | (with_reducible exact HR1277_2.out) | (with_reducible refine Kd.C_alloc ?_ _) | (with_reducible refine Kd.C_drewN ?_ _) | (with_reducible refine Kd.C_drew ?_) | exact HR1277_2.out)) hb); have n8_ := Aside0.mk (below_step ZB hb); have n9_ := Aside0.mk (hbox); have n10_ := Aside0.mk ((ZG hg : w.heap.size ≤ gb1286)); have n11_ := Aside0.mk ((ZG hg : w.heap.size ≤ gb1286)); have n12_ := Aside0.mk ((ZN hg BK1261 : gb1261 ≠ gb1286)); have n13_ := Aside0.mk ((ZM hg BK1261 : gb1286 ≠ gb1261)); clear HO_9; clear HL1277_1; clear HL1277_2; clear HO1281; clear HO1284; clear BK1261; clear HR1277_1; clear HR1277_2; clear HB; have HO_9 := n0_; have HL1277_1 := n1_; have HL1277_2 := n2_; have HO1281 := n3_; have HO1284 := n4_; have BK1261 := n5_; have HR1277_1 := n6_; have HR1277_2 := n7_; have HB := n8_; have BK1286 := n9_; have GW1286 := n10_; have GE1286 := n11_; have NB1261_1286 := n12_; have NB1286_1261 := n13_; clear n0_ n1_ n2_ n3_ n4_ n5_ n6_ n7_ n8_ n9_ n10_ n11_ n12_ n13_; clear hb hbox hg; have hnb34 := NB1286_1261.out; have hnc34 := NB1261_1286.out; obtain ⟨hcz35_0, hcz35_1, hcz35_2, hfz35_0, hfz35_1, hfz35_2⟩ := ZD3 BK1286; obtain ⟨Ao36, co36, eo36⟩ := Kd.R_slice HO1281.out; subst eo36; obtain ⟨Ao37, co37, eo37⟩ := Kd.R_slice HO1284.out; subst eo37) | ((with_reducible refine gate_store (t := 29) (p := 10) rfl ?_); refine store_event (t := 29) (p := 10) (v := ?vo_w38) (w1 := (((w33.setCell ⟨gb1286, 0, none⟩ (.int .i64 t1278)).setCell ⟨gb1286, 1, none⟩ (.slice Ao36 t1279.length co36)).setCell ⟨gb1286, 2, none⟩ (.slice Ao37 t1282.length co37))) ?hg ?ho ?hn ?hr ?_; (case ho => rfl); (case hg => rfl); (case hn => rfl); (case hr => first | (go_simp; done) | (go_simp; rfl)); intro w38 hw; have n0_ : Aside0 (Kd.N k29 29 w38 w.heap.size (fun k_ => (w.heap.size ≤ k_) ∧ some k_ ≠ (.slice Ao36 t1279.length co36 : Value).ownBlock ∧ some k_ ≠ (.slice Ao37 t1282.length co37 : Value).ownBlock ∧ k_ ≠ gb1261 ∧ k_ ≠ gb1286) (.slice (some ad1277) x9_3.length co31) x9_3) := ⟨(by rw [hw]; exact (by (with_reducible repeat (first | apply Kd.N_alloc | apply Kd.N_drewN | apply Kd.N_drew)); exact Kd.N_mono (Kd.N_far (p := ⟨gb1286, 2, none⟩) (Kd.N_far (p := ⟨gb1286, 1, none⟩) (Kd.N_far (p := ⟨gb1286, 0, none⟩) (Kd.N_mono HO_9.out (fun k_ hk => (⟨hk, hk.2⟩ : _ ∧ k_ ≠ gb1286))) (fun _ hk => hk.2) (.int .i64 t1278)) (fun _ hk => hk.2) (.slice Ao36 t1279.length co36)) (fun _ hk => hk.2) (.slice Ao37 t1282.length co37)) (fun _ hk => (And.intro (hk.1.1.1.1.1) ((And.intro (hk.1.1.1.2) ((And.intro (hk.1.1.2) ((And.intro (hk.1.1.1.1.2) (hk.1.2)))))))))))⟩; have n1_ : Aside0 (Kd.V (Kd.int .i64) 2 w38 w.heap.size (fun k_ => (w.heap.size ≤ k_) ∧ some k_ ≠ (.slice (some ad1277) x9_3.length co31 : Value).ownBlock ∧ some k_ ≠ (.slice Ao36 t1279.length co36 : Value).ownBlock ∧ some k_ ≠ (.slice Ao37 t1282.length co37 : Value).ownBlock ∧ k_ ≠ gb1261 ∧ k_ ≠ gb1286) (.slice A1277_1 ((rd_T29 x9_3 (ji25)).f1).length c1277_1) ((rd_T29 x9_3 (ji25)).f1)) := ⟨(by rw [hw]; exact (by (with_reducible repeat (first | apply Kd.V_alloc | apply Kd.V_drewN | apply Kd.V_drew)); exact Kd.V_mono (Kd.V_far (p := ⟨gb1286, 2, none⟩) (Kd.V_far (p := ⟨gb1286, 1, none⟩) (Kd.V_far (p := ⟨gb1286, 0, none⟩) (Kd.V_mono HL1277_1.out (fun k_ hk => (⟨hk, hk.2⟩ : _ ∧ k_ ≠ gb1286))) (fun _ hk => hk.2) (.int .i64 t1278)) (fun _ hk => hk.2) (.slice Ao36 t1279.length co36)) (fun _ hk => hk.2) (.slice Ao37 t1282.length co37)) (fun _ hk => (And.intro (hk.1.1.1.1.1.1) ((And.intro (hk.1.1.1.1.2) ((And.intro (hk.1.1.1.2) ((And.intro (hk.1.1.2) ((And.intro (hk.1.1.1.1.1.2) (hk.1.2)))))))))))))⟩; have n2_ : Aside0 (Kd.V (Kd.int .i64) 2 w38 w.heap.size (fun k_ => (w.heap.size ≤ k_) ∧ some k_ ≠ (.slice (some ad1277) x9_3.length co31 : Value).ownBlock ∧ some k_ ≠ (.slice Ao36 t1279.length co36 : Value).ownBlock ∧ some k_ ≠ (.slice Ao37 t1282.length co37 : Value).ownBlock ∧ k_ ≠ gb1261 ∧ k_ ≠ gb1286) (.slice A1277_2 ((rd_T29 x9_3 (ji25)).f2).length c1277_2) ((rd_T29 x9_3 (ji25)).f2)) := ⟨(by rw [hw]; exact (by (with_reducible repeat (first | apply Kd.V_alloc | apply Kd.V_drewN | apply Kd.V_drew)); exact Kd.V_mono (Kd.V_far (p := ⟨gb1286, 2, none⟩) (Kd.V_far (p := ⟨gb1286, 1, none⟩) (Kd.V_far (p := ⟨gb1286, 0, none⟩) (Kd.V_mono HL1277_2.out (fun k_ hk => (⟨hk, hk.2⟩ : _ ∧ k_ ≠ gb1286))) (fun _ hk => hk.2) (.int .i64 t1278)) (fun _ hk => hk.2) (.slice Ao36 t1279.length co36)) (fun _ hk => hk.2) (.slice Ao37 t1282.length co37)) (fun _ hk => (And.intro (hk.1.1.1.1.1.1) ((And.intro (hk.1.1.1.1.2) ((And.intro (hk.1.1.1.2) ((And.intro (hk.1.1.2) ((And.intro (hk.1.1.1.1.1.2) (hk.1.2)))))))))))))⟩; have n3_ : Aside0 (Kd.R (Kd.int .i64) 2 w38 w.heap.size (fun k_ => (w.heap.size ≤ k_) ∧ some k_ ≠ (.slice Ao37 t1282.length co37 : Value).ownBlock) (.slice Ao36 t1279.length co36) t1279) := ⟨(by rw [hw]; exact (by refine ZQ ?_; exact Kd.R_mono (Kd.R_far (p := ⟨gb1286, 2, none⟩) (Kd.R_far (p := ⟨gb1286, 1, none⟩) (Kd.R_far (p := ⟨gb1286, 0, none⟩) (Kd.R_types HO1281.out BK1286.out (by decide)) (fun _ hk => hk.2) (.int .i64 t1278)) (fun _ hk => hk.2) (.slice Ao36 t1279.length co36)) (fun _ hk => hk.2) (.slice Ao37 t1282.length co37)) (fun _ hk => (And.intro (hk.1.1) (hk.1.2)))))⟩; have n4_ : Aside0 (Kd.R (Kd.int .i64) 2 w38 w.heap.size (fun k_ => (w.heap.size ≤ k_) ∧ some k_ ≠ (.slice Ao36 t1279.length co36 : Value).ownBlock) (.slice Ao37 t1282.length co37) t1282) := ⟨(by rw [hw]; exact (by refine ZQ ?_; exact Kd.R_mono (Kd.R_far (p := ⟨gb1286, 2, none⟩) (Kd.R_far (p := ⟨gb1286, 1, none⟩) (Kd.R_far (p := ⟨gb1286, 0, none⟩) (Kd.R_types HO1284.out BK1286.out (by decide)) (fun _ hk => hk.2) (.int .i64 t1278)) (fun _ hk => hk.2) (.slice Ao36 t1279.length co36)) (fun _ hk => hk.2) (.slice Ao37 t1282.length co37)) (fun _ hk => (And.intro (hk.1.1) (hk.1.2)))))⟩; have n5_ : Aside0 (w38.heap[gb1261]? = some (.cells #[.int .i64 a0_0, .slice A0_1 l0_1.length c0_1, .slice A0_2 l0_2.length c0_2] 29 (0, 0))) := ⟨(by rw [hw]; exact (by refine ZS ?_; refine blk_far ?_ NB1261_1286.out _; refine ZS ?_; refine blk_far ?_ NB1261_1286.out _; refine ZS ?_; refine blk_far ?_ NB1261_1286.out _; refine ZS ?_; exact BK1261.out))⟩; have n6_ : Aside0 (w38.heap[gb1286]? = some (.cells #[.int .i64 t1278, .slice Ao36 t1279.length co36, .slice Ao37 t1282.length co37] 29 (0, 0))) := ⟨(by rw [hw]; exact (by refine ZS ?_; refine blk_put (cs := #[.int .i64 t1278, .slice Ao36 t1279.length co36, .slice none 0 0]) ?_ 2 _ rfl; refine ZS ?_; refine blk_put (cs := #[.int .i64 t1278, .slice none 0 0, .slice none 0 0]) ?_ 1 _ rfl; refine ZS ?_; refine blk_put (cs := #[.int .i64 0, .slice none 0 0, .slice none 0 0]) ?_ 0 _ rfl; refine ZS ?_; exact BK1286.out))⟩; have n7_ : Aside0 (Below w.heap.size w w38) := ⟨(by rw [hw]; exact ZB)⟩; clear hw; clear HO_9; clear HL1277_1; clear HL1277_2; clear HO1281; clear HO1284; clear BK1261; clear BK1286; clear HB; have HO_9 := n0_; have HL1277_1 := n1_; have HL1277_2 := n2_; have HO1281 := n3_; have HO1284 := n4_; have BK1261 := n5_; have BK1286 := n6_; have HB := n7_; clear n0_ n1_ n2_ n3_ n4_ n5_ n6_ n7_; obtain ⟨hcz39_0, hcz39_1, hcz39_2, hfz39_0, hfz39_1, hfz39_2⟩ := ZD3 BK1286) | ((with_reducible refine gate_builtin (b := .append) (xs := #[.tmp 46, .tmp 48]) rfl ?_); at_builtin; refine Kd.N_append k29 (w0 := w) w.heap.size rfl (.tmp 46) (.tmp 48) 53 29 (.agg #[(.int .i64 0), (.slice none 0 0), (.slice none 0 0)]) 56 rfl Try.underlying53 info29 rfl (by decide) (by omega) (.slice (some ad1277) x9_3.length co31) x9_3 (⟨t1278, t1279, t1282⟩ : S29) [.int .i64 t1278, .slice Ao36 t1279.length co36, .slice Ao37 t1282.length co37] (fun k_ => (w.heap.size ≤ k_) ∧ k_ ≠ gb1261 ∧ k_ ≠ gb1286) (fun k_ => ((fun k_ => (w.heap.size ≤ k_) ∧ k_ ≠ gb1261 ∧ k_ ≠ gb1286)) k_ ∧ some k_ ≠ (.slice (some ad1277) x9_3.length co31 : Value).ownBlock) rfl rfl ?aP (fun _ hk => hk) ?aF ?aO ?aB ?aS ?aL ?_; (case aP => exact (k29_mkF _ _ (⟨t1278, t1279, t1282⟩ : S29) (Kd.R_reads' (Kd.R_mono (ok' := (fun k_ => ((fun k_ => (w.heap.size ≤ k_) ∧ k_ ≠ gb1261 ∧ k_ ≠ gb1286)) k_ ∧ some k_ ≠ (.slice (some ad1277) x9_3.length co31 : Value).ownBlock)) (Kd.R_types (Kd.R_types (Kd.R_apart' (HO1281.out) (Kd.N_typed HO_9.out) (by decide)) BK1261.out (by decide)) BK1286.out (by decide)) (fun k_ hk => (And.intro ((And.intro (hk.1.1.1.1) ((And.intro (hk.1.2) (hk.2))))) (hk.1.1.2))))).2.1 (Kd.R_F (Kd.R_mono (ok' := (fun k_ => ((fun k_ => (w.heap.size ≤ k_) ∧ k_ ≠ gb1261 ∧ k_ ≠ gb1286)) k_ ∧ some k_ ≠ (.slice (some ad1277) x9_3.length co31 : Value).ownBlock)) (Kd.R_types (Kd.R_types (Kd.R_apart' (HO1281.out) (Kd.N_typed HO_9.out) (by decide)) BK1261.out (by decide)) BK1286.out (by decide)) (fun k_ hk => (And.intro ((And.intro (hk.1.1.1.1) ((And.intro (hk.1.2) (hk.2))))) (hk.1.1.2))))) (Kd.R_reads' (Kd.R_mono (ok' := (fun k_ => ((fun k_ => (w.heap.size ≤ k_) ∧ k_ ≠ gb1261 ∧ k_ ≠ gb1286)) k_ ∧ some k_ ≠ (.slice (some ad1277) x9_3.length co31 : Value).ownBlock)) (Kd.R_types (Kd.R_types (Kd.R_apart' (HO1284.out) (Kd.N_typed HO_9.out) (by decide)) BK1261.out (by decide)) BK1286.out (by decide)) (fun k_ hk => (And.intro ((And.intro (hk.1.1.1.1) ((And.intro (hk.1.2) (hk.2))))) (hk.1.1.2))))).2.1 (Kd.R_F (Kd.R_mono (ok' := (fun k_ => ((fun k_ => (w.heap.size ≤ k_) ∧ k_ ≠ gb1261 ∧ k_ ≠ gb1286)) k_ ∧ some k_ ≠ (.slice (some ad1277) x9_3.length co31 : Value).ownBlock)) (Kd.R_types (Kd.R_types (Kd.R_apart' (HO1284.out) (Kd.N_typed HO_9.out) (by decide)) BK1261.out (by decide)) BK1286.out (by decide)) (fun k_ hk => (And.intro ((And.intro (hk.1.1.1.1) ((And.intro (hk.1.2) (hk.2))))) (hk.1.1.2))))))); (case aB => exact ZB); (case aF => exact (fun k_ hk => ⟨(Nat.le_trans (below_size ZB) hk), Kd.freshB (ZK BK1261) k_ hk, Kd.freshB (ZK BK1286) k_ hk⟩)); (case aO => exact (by (with_reducible repeat (first | apply Kd.N_alloc | apply Kd.N_drewN | apply Kd.N_drew)); exact Kd.N_mono HO_9.out (fun _ hk => (And.intro (hk.1) ((And.intro (hk.2.2.2.1) (hk.2.2.2.2))))))); (case aS => exact (below_size ZB)); (case aL => have := LMc30.out; omega); intro v1288 w40 ho hb hg hat; rw [← Ny1287.out] at ho; have n0_ := Aside0.mk (blk_grown (ZK BK1261) hg (Kd.N_away HO_9.out (fun _ hk => hk.2.2.2.1))); have n1_ := Aside0.mk (Kd.V_afterv (ok := (fun k_ => (w.heap.size ≤ k_) ∧ some k_ ≠ (.slice Ao36 t1279.length co36 : Value).ownBlock ∧ some k_ ≠ (.slice Ao37 t1282.length co37 : Value).ownBlock ∧ k_ ≠ gb1261 ∧ k_ ≠ gb1286)) (by (with_reducible repeat (first | apply Kd.V_alloc | apply Kd.V_drewN | apply Kd.V_drew)); exact Kd.V_mono HL1277_1.out (fun _ hk => (And.intro ((And.intro (hk.1) ((And.intro (hk.2.2.1) ((And.intro (hk.2.2.2.1) ((And.intro (hk.2.2.2.2.1) (hk.2.2.2.2.2))))))))) (hk.2.1)))) hg hat); have n2_ := Aside0.mk (Kd.V_afterv (ok := (fun k_ => (w.heap.size ≤ k_) ∧ some k_ ≠ (.slice Ao36 t1279.length co36 : Value).ownBlock ∧ some k_ ≠ (.slice Ao37 t1282.length co37 : Value).ownBlock ∧ k_ ≠ gb1261 ∧ k_ ≠ gb1286)) (by (with_reducible repeat (first | apply Kd.V_alloc | apply Kd.V_drewN | apply Kd.V_drew)); exact Kd.V_mono HL1277_2.out (fun _ hk => (And.intro ((And.intro (hk.1) ((And.intro (hk.2.2.1) ((And.intro (hk.2.2.2.1) ((And.intro (hk.2.2.2.2.1) (hk.2.2.2.2.2))))))))) (hk.2.1)))) hg hat); have n3_ := Aside0.mk (blk_grown (ZK BK1286) hg (Kd.N_away HO_9.out (fun _ hk => hk.2.2.2.2))); have n4_ := Aside0.mk (hb); have n5_ := Aside0.mk (ho); clear BK1261; clear HL1277_1; clear HL1277_2; clear BK1286; clear HB; clear HO_9; clear HO1281; clear HO1284; have BK1261 := n0_; have HL1277_1 := n1_; have HL1277_2 := n2_; have BK1286 := n3_; have HB := n4_; have HO1289 := n5_; clear n0_ n1_ n2_ n3_ n4_ n5_; clear ho hb hg hat))
             go_roundg k3
             case measure => have := HJ4.out; have := HJ13.out; have := HK3.out; omega
             case rel => exact ⟨(wrap64 (x2_3 - 1)), (y1287), (by first | rfl | (simp; done) | (simp [*]; done)), H', ⟨by have := HJ4.out; have := HJ13.out; have := HK3.out; omega⟩, ⟨by (with_reducible repeat (first | apply Kd.N_alloc | apply Kd.N_drewN | apply Kd.N_drew)); exact Kd.N_mono HO1289.out (fun _ hk => (And.intro (hk.1) (hk.2.1)))⟩, ⟨ZK BK1261⟩, ⟨ZB⟩⟩
            ·rw [if_neg c30] at H
             exact absurd H (by simp)
           ·replace c29 := Bool.eq_false_iff.mpr c29
            subst c29
            have H1 : (some (([] : List (S29)), 5)) = some (r1, r2) := by rw [if_neg (show ¬ (false = true) by decide)] at H; exact H
            clear H
            have H := H1
            clear H1
            simp only [Option.some.injEq, Prod.mk.injEq] at H
            obtain ⟨rfl, rfl⟩ := H
            obtain ⟨Ao41, co41, eo41⟩ := Kd.N_slice HO_9.out
            subst eo41
            have p1277 : 0 ≤ ((ji25) : Int) := of_decide_eq_true (by first | (with_reducible assumption) | assumption)
            have q1277 : (ji25) < (x9_3.length : Int) := of_decide_eq_true (by first | (with_reducible assumption) | assumption)
            obtain ⟨ad1277, A1277_1, c1277_1, A1277_2, c1277_2, e1277, hx1277_0, hx1277_1, hx1277_2, hl1277_1, hi1277_1, hl1277_2, hi1277_2⟩ := at_T29 (Kd.N_reads' HO_9.out).2.2 (ji25) p1277 q1277
            cases e1277
            obtain ⟨ce1277, hce1277, hMe1277, hcc1277⟩ := Kd.N_get HO_9.out z29 (ji25) p1277 (by first | exact q1277 | exact of_decide_eq_true (by first | (with_reducible assumption) | assumption) | (have e_ := (Kd.N_reads' HO_9.out).1; omega))
            obtain ⟨ua1277_1, uc1277_1, ua1277_2, uc1277_2, rfl, ul1277_1, ge1277_1, ul1277_2, ge1277_2⟩ := k29_openF hMe1277
            have hv1277_1 := hcc1277 1 _ rfl
            rw [add_field _ _ 1 (by omega)] at hv1277_1
            replace hv1277_1 := Option.some.inj (hv1277_1.symm.trans hx1277_1)
            injection hv1277_1 with hva_ hvn_ hvc_
            rw [hva_] at ge1277_1
            rw [hvc_] at ul1277_1
            have HL1277_1 := Aside0.mk (show Kd.V (Kd.int .i64) 2 _ w.heap.size _ _ ((rd_T29 x9_3 (ji25)).f1) from Kd.V_mk ul1277_1 ge1277_1)
            clear hva_ hvn_ hvc_ ge1277_1 ul1277_1
            have hv1277_2 := hcc1277 2 _ rfl
            rw [add_field _ _ 2 (by omega)] at hv1277_2
            replace hv1277_2 := Option.some.inj (hv1277_2.symm.trans hx1277_2)
            injection hv1277_2 with hva_ hvn_ hvc_
            rw [hva_] at ge1277_2
            rw [hvc_] at ul1277_2
            have HL1277_2 := Aside0.mk (show Kd.V (Kd.int .i64) 2 _ w.heap.size _ _ ((rd_T29 x9_3 (ji25)).f2) from Kd.V_mk ul1277_2 ge1277_2)
            clear hva_ hvn_ hvc_ ge1277_2 ul1277_2
            clear hcc1277 hce1277
            have HR1277_1 := Aside0.mk hi1277_1
            have HC1277_1 := Aside0.mk hl1277_1
            clear hi1277_1 hl1277_1
            have HR1277_2 := Aside0.mk hi1277_2
            have HC1277_2 := Aside0.mk hl1277_2
            clear hi1277_2 hl1277_2
            replace p1277 := eq_true p1277
            replace q1277 := eq_true q1277
            go_wp2_with (first | ((with_reducible refine gate_callee (f := 63) rfl ?_); refine goesL_ (some 41) rfl rfl Try.func63 (by kernel_rfl) rfl #[.agg #[.int .i64 ((rd_T29 x9_3 (ji25)).f0), .slice A1277_1 ((rd_T29 x9_3 (ji25)).f1).length c1277_1, .slice A1277_2 ((rd_T29 x9_3 (ji25)).f2).length c1277_2], .int .i64 a1] rfl (by (try simp only [List.map_toArray, List.map_cons, List.map_nil]); first | done | (simp only [hji25]; rfl) | rfl | (simp only [List.length_drop, List.length_take]; rfl)) ?_; (with_reducible refine (spec_l08Step.calls k3 ((rd_T29 x9_3 (ji25)).f0) _ _ ((rd_T29 x9_3 (ji25)).f1) _ _ ((rd_T29 x9_3 (ji25)).f2) a1 t1278 t1279 t1282 false _ ?side1 ?side2 ?side3 ?side4 A28.out).mono ?_); (case side1 => repeat (first | exact (by repeat (first | (with_reducible exact HR1277_1.out) | (with_reducible refine Kd.C_alloc ?_ _) | (with_reducible refine Kd.C_drewN ?_ _) | (with_reducible refine Kd.C_drew ?_) | exact HR1277_1.out)) | (with_reducible refine Kd.C_alloc ?_ _) | (with_reducible refine Kd.C_drewN ?_ _) | (with_reducible refine Kd.C_drew ?_))); (case side2 => exact HC1277_1.out); (case side3 => repeat (first | exact (by repeat (first | (with_reducible exact HR1277_2.out) | (with_reducible refine Kd.C_alloc ?_ _) | (with_reducible refine Kd.C_drewN ?_ _) | (with_reducible refine Kd.C_drew ?_) | exact HR1277_2.out)) | (with_reducible refine Kd.C_alloc ?_ _) | (with_reducible refine Kd.C_drewN ?_ _) | (with_reducible refine Kd.C_drew ?_))); (case side4 => exact HC1277_2.out); rintro e w42 ⟨v1280, v1283, rfl, ho0, ho1, hb⟩; refine ⟨_, rfl, ?_⟩; have n0_ := Aside0.mk (Kd.N_mono (Kd.N_told (Kd.N_told (Kd.N_old (by (with_reducible repeat (first | apply Kd.N_alloc | apply Kd.N_drewN | apply Kd.N_drew)); exact HO_9.out) hb) (Kd.R_base ho0)) (Kd.R_base ho1)) (fun _ h_ => h_.1)); have n1_ := Aside0.mk (Kd.V_mono (Kd.V_told (Kd.V_told (Kd.V_old (by (with_reducible repeat (first | apply Kd.V_alloc | apply Kd.V_drewN | apply Kd.V_drew)); exact HL1277_1.out) hb) (Kd.R_base ho0)) (Kd.R_base ho1)) (fun _ h_ => h_.1)); have n2_ := Aside0.mk (Kd.V_mono (Kd.V_told (Kd.V_told (Kd.V_old (by (with_reducible repeat (first | apply Kd.V_alloc | apply Kd.V_drewN | apply Kd.V_drew)); exact HL1277_2.out) hb) (Kd.R_base ho0)) (Kd.R_base ho1)) (fun _ h_ => h_.1)); have n3_ := Aside0.mk (Kd.R_lower (Kd.R_newM (M := fun k_ => (w.heap.size ≤ k_)) ho0 (below_size ZB) (fun k_ h_ => h_)) (below_size ZB)); have n4_ := Aside0.mk (Kd.R_lower (Kd.R_newM (M := fun k_ => (w.heap.size ≤ k_)) ho1 (below_size ZB) (fun k_ h_ => h_)) (below_size ZB)); have n5_ := ZL BK1261 hb; have n6_ := Aside0.mk (Kd.C_below (by repeat (first | (with_reducible exact HR1277_1.out) | (with_reducible refine Kd.C_alloc ?_ _) | (with_reducible refine Kd.C_drewN ?_ _) | (with_reducible refine Kd.C_drew ?_) | exact HR1277_1.out)) hb); have n7_ := Aside0.mk (Kd.C_below (by repeat (first | (with_reducible exact HR1277_2.out) | (with_reducible refine Kd.C_alloc ?_ _) | (with_reducible refine Kd.C_drewN ?_ _) | (with_reducible refine Kd.C_drew ?_) | exact HR1277_2.out)) hb); have n8_ := Aside0.mk (below_step ZB hb); clear HO_9; clear HL1277_1; clear HL1277_2; clear BK1261; clear HR1277_1; clear HR1277_2; clear HB; have HO_9 := n0_; have HL1277_1 := n1_; have HL1277_2 := n2_; have HO1281 := n3_; have HO1284 := n4_; have BK1261 := n5_; have HR1277_1 := n6_; have HR1277_2 := n7_; have HB := n8_; clear n0_ n1_ n2_ n3_ n4_ n5_ n6_ n7_ n8_; (try clear hb); (try clear hb2); (try clear hk); (try clear hi); (try clear ho0); (try clear ho1)) | ((with_reducible refine gate_dst (N := 10) rfl ?_); refine box_event ?hg (N := 10) ?hd (cs := #[.int .i64 0, .slice none 0 0, .slice none 0 0]) (t := 29) ?hr ?_; (case hd => rfl); (case hg => rfl); (case hr => first | (go_simp; done) | (go_simp; rfl)); intro gb1286 hg w43 hbox hb; have n0_ := Aside0.mk (Kd.N_below (Kd.N_elderB (by (with_reducible repeat (first | apply Kd.N_alloc | apply Kd.N_drewN | apply Kd.N_drew)); exact HO_9.out) gb1286 (Nat.le_of_eq hg.symm)) hb); have n1_ := Aside0.mk (Kd.V_below (Kd.V_elderB (by (with_reducible repeat (first | apply Kd.V_alloc | apply Kd.V_drewN | apply Kd.V_drew)); exact HL1277_1.out) gb1286 (Nat.le_of_eq hg.symm)) hb); have n2_ := Aside0.mk (Kd.V_below (Kd.V_elderB (by (with_reducible repeat (first | apply Kd.V_alloc | apply Kd.V_drewN | apply Kd.V_drew)); exact HL1277_2.out) gb1286 (Nat.le_of_eq hg.symm)) hb); have n3_ := Aside0.mk (Kd.R_below (ZR HO1281) hb); have n4_ := Aside0.mk (Kd.R_below (ZR HO1284) hb); have n5_ := ZL BK1261 hb; have n6_ := Aside0.mk (Kd.C_below (by repeat (first | (with_reducible exact HR1277_1.out) | (with_reducible refine Kd.C_alloc ?_ _) | (with_reducible refine Kd.C_drewN ?_ _) | (with_reducible refine Kd.C_drew ?_) | exact HR1277_1.out)) hb); have n7_ := Aside0.mk (Kd.C_below (by repeat (first | (with_reducible exact HR1277_2.out) | (with_reducible refine Kd.C_alloc ?_ _) | (with_reducible refine Kd.C_drewN ?_ _) | (with_reducible refine Kd.C_drew ?_) | exact HR1277_2.out)) hb); have n8_ := Aside0.mk (below_step ZB hb); have n9_ := Aside0.mk (hbox); have n10_ := Aside0.mk ((ZG hg : w.heap.size ≤ gb1286)); have n11_ := Aside0.mk ((ZG hg : w.heap.size ≤ gb1286)); have n12_ := Aside0.mk ((ZN hg BK1261 : gb1261 ≠ gb1286)); have n13_ := Aside0.mk ((ZM hg BK1261 : gb1286 ≠ gb1261)); clear HO_9; clear HL1277_1; clear HL1277_2; clear HO1281; clear HO1284; clear BK1261; clear HR1277_1; clear HR1277_2; clear HB; have HO_9 := n0_; have HL1277_1 := n1_; have HL1277_2 := n2_; have HO1281 := n3_; have HO1284 := n4_; have BK1261 := n5_; have HR1277_1 := n6_; have HR1277_2 := n7_; have HB := n8_; have BK1286 := n9_; have GW1286 := n10_; have GE1286 := n11_; have NB1261_1286 := n12_; have NB1286_1261 := n13_; clear n0_ n1_ n2_ n3_ n4_ n5_ n6_ n7_ n8_ n9_ n10_ n11_ n12_ n13_; clear hb hbox hg; have hnb44 := NB1286_1261.out; have hnc44 := NB1261_1286.out; obtain ⟨hcz45_0, hcz45_1, hcz45_2, hfz45_0, hfz45_1, hfz45_2⟩ := ZD3 BK1286; obtain ⟨Ao46, co46, eo46⟩ := Kd.R_slice HO1281.out; subst eo46; obtain ⟨Ao47, co47, eo47⟩ := Kd.R_slice HO1284.out; subst eo47))
            go_ret2
            exact ⟨_, by first | rfl | (simp [errW_none, errW_some] <;> rfl) | (simp only [← hji25]; first | rfl | (simp [errW_none, errW_some] <;> rfl)) | (simp [*, errW_none, errW_some] <;> rfl), by first | exact Kd.S_nil _ _ _ _ _ | exact Kd.N_nil _ _ _ _ _ | exact Kd.V_nil _ _ _ _ _ | exact Kd.Q_nil _ _ _ _ _ | exact Kd.R_nil _ _ _ _ _, ZB⟩
          ·rw [if_neg c27] at H
           exact absurd H (by simp)
         ·rw [if_neg c26] at H
          exact absurd H (by simp)
        ·rw [if_neg c24] at H
         have c24b0 : decide (0 < x2_3) = false := decide_eq_false c24
         clear c24
         simp only [Option.some.injEq, Prod.mk.injEq] at H
         obtain ⟨rfl, rfl⟩ := H
         go_wp2
         go_ret2
         exact ⟨_, by first | rfl | (simp [errW_none, errW_some] <;> rfl) | (simp [*, errW_none, errW_some] <;> rfl), by (with_reducible repeat (first | apply Kd.N_alloc | apply Kd.N_drewN | apply Kd.N_drew)); exact Kd.N_mono HO_9.out (fun _ hk => hk.1), ZB⟩
     ·rw [if_neg c16] at H
      have c16b0 : (x8_13 == 0) = false := beq_eq_false_iff_ne.mpr c16
      have c16b1 : (x8_13 != 0) = true := bne_iff_ne.mpr c16
      simp only [Option.some.injEq, Prod.mk.injEq] at H
      obtain ⟨rfl, rfl⟩ := H
      go_wp2
      go_ret2
      exact ⟨_, by first | rfl | (simp [errW_none, errW_some] <;> rfl) | (simp [*, errW_none, errW_some] <;> rfl), by first | exact Kd.S_nil _ _ _ _ _ | exact Kd.N_nil _ _ _ _ _ | exact Kd.V_nil _ _ _ _ _ | exact Kd.Q_nil _ _ _ _ _ | exact Kd.R_nil _ _ _ _ _, ZB⟩

end Go.Proofs.Ytaclapojgdekpaa.X
