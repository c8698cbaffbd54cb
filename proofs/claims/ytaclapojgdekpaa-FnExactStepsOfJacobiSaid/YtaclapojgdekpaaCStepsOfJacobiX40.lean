/- Contracts of functions that the law reaches, printed by a program of this session; Lean checks them. -/
import Derived.Test.YtaclapojgdekpaaCStepsOfJacobiX0
import Derived.Test.YtaclapojgdekpaaCStepsOfJacobiX7
import Derived.Test.YtaclapojgdekpaaCStepsOfJacobiXZ
namespace Go.Proofs.Ytaclapojgdekpaa.X
open Go.RowKit Go.Proofs.YtaclapojgdekpaaW.PrintWords Go.Proofs.YtaclapojgdekpaaW.PrintLast Go.Proofs.YtaclapojgdekpaaW.PrintMore
attribute [local go_sem] max2_int min2_int max_two min_two max_three min_three max_four min_four   -- for this text's walks alone
set_option linter.unusedVariables false
set_option linter.unusedSimpArgs false

/-! ### impl_Jacobi_part: function 89 -/
def impl_Jacobi_part.f (a0_0 : Int) (l0_1 : List Int) (l0_2 : List Int) (a1 : Int) (a2 : Int) : Option (Int × List Int × List Int) := if 0 ≤ a1 then (if a1 ≤ a2 then (if a2 ≤ (l0_1.length : Int) then ((slices_Clone_int64_int64.f ((l0_1.take (a2 : Int).toNat).drop (a1 : Int).toNat)).bind fun t1293 => (if a2 ≤ (l0_2.length : Int) then ((slices_Clone_int64_int64.f ((l0_2.take (a2 : Int).toNat).drop (a1 : Int).toNat)).bind fun t1297 => (some (a0_0, t1293, t1297))) else (none))) else (none)) else (none)) else (none)
def impl_Jacobi_part.T1 : Bool × List (List Nat × List Nat) := (true, [([], []), ([0], [0]), ([], []), ([2], [2]), ([], []), ([], []), ([3, 4, 5], [3, 4, 5]), ([6], [6]), ([], []), ([8], [8]), ([], []), ([], []), ([9, 10, 11], [9, 10, 11]), ([12, 7], [12]), ([1, 7, 13], [1, 7, 13]), ([14, 13, 0, 1, 2, 3, 4, 5, 6, 7, 8, 9, 10, 11, 12, 13, 14], [14])])
def impl_Jacobi_part.B1 : List Nat := [0, 1, 0, 4, 0, 0, 60, 124, 0, 256, 0, 0, 3840, 8188, 16383, 32767]
theorem impl_Jacobi_part.tab1 : rtab .any (opsOf Try.f89 1) = impl_Jacobi_part.T1 := by kernel_rfl
theorem impl_Jacobi_part.bits1 : waitsOk impl_Jacobi_part.T1.2 impl_Jacobi_part.B1 = true := by kernel_rfl
set_option maxHeartbeats 8000000 in
set_option maxRecDepth 100000 in
theorem impl_Jacobi_part.calls (a0_0 : Int) (A0_1 : Option Addr) (c0_1 : Nat) (l0_1 : List Int) (A0_2 : Option Addr) (c0_2 : Nat) (l0_2 : List Int) (a1 : Int) (a2 : Int) (r1 : Int) (r2 : List Int) (r3 : List Int) (w : World) (hr0_1 : Kd.C (Kd.int .i64) w A0_1 l0_1.length l0_1) (hc0_1 : l0_1.length ≤ c0_1) (hr0_2 : Kd.C (Kd.int .i64) w A0_2 l0_2.length l0_2) (hc0_2 : l0_2.length ≤ c0_2) (h : impl_Jacobi_part.f a0_0 l0_1 l0_2 a1 a2 = some (r1, r2, r3)) :
  Calls Try.prog 89 #[.agg #[.int .i64 a0_0, .slice A0_1 l0_1.length c0_1, .slice A0_2 l0_2.length c0_2], .int .i64 a1, .int .i64 a2] w fun e w' => ∃ v1_ v2_ : Value, e = .returned (.agg #[.int .i64 r1, v1_, v2_]) ∧ Kd.R (Kd.int .i64) 2 w' w.heap.size (fun k_ => some k_ ≠ (v2_ : Value).ownBlock) v1_ r2 ∧ Kd.R (Kd.int .i64) 2 w' w.heap.size (fun k_ => some k_ ≠ (v1_ : Value).ownBlock) v2_ r3 ∧ Below w.heap.size w w' := by
 have hu29 := Try.underlying29
 have HR0_1 := Aside0.mk hr0_1
 have HC0_1 := Aside0.mk hc0_1
 clear hr0_1 hc0_1
 have HR0_2 := Aside0.mk hr0_2
 have HC0_2 := Aside0.mk hc0_2
 clear hr0_2 hc0_2
 have HB := Aside0.mk (Below.refl w.heap.size w)
 have H : (if 0 ≤ a1 then (if a1 ≤ a2 then (if a2 ≤ (l0_1.length : Int) then ((slices_Clone_int64_int64.f ((l0_1.take (a2 : Int).toNat).drop (a1 : Int).toNat)).bind fun t1293 => (if a2 ≤ (l0_2.length : Int) then ((slices_Clone_int64_int64.f ((l0_2.take (a2 : Int).toNat).drop (a1 : Int).toNat)).bind fun t1297 => (some (a0_0, t1293, t1297))) else (none))) else (none)) else (none)) else (none)) = some (r1, r2, r3) := h
 clear h
 by_cases c4 : 0 ≤ a1
 ·rw [if_pos c4] at H
  have c4b0 := eq_true c4
  have c4b1 : decide (0 ≤ a1) = true := decide_eq_true c4
  clear c4
  by_cases c5 : a1 ≤ a2
  ·rw [if_pos c5] at H
   have c5b0 := eq_true c5
   have c5b1 : decide (a1 ≤ a2) = true := decide_eq_true c5
   clear c5
   by_cases c6 : a2 ≤ (l0_1.length : Int)
   ·rw [if_pos c6] at H
    have c6b0 := eq_true c6
    have c6b1 : decide (a2 ≤ (l0_1.length : Int)) = true := decide_eq_true c6
    clear c6
    replace H := Option.bind_eq_some_iff.mp H
    obtain ⟨t1293, A70, H⟩ := H
    replace H : (if a2 ≤ (l0_2.length : Int) then ((slices_Clone_int64_int64.f ((l0_2.take (a2 : Int).toNat).drop (a1 : Int).toNat)).bind fun t1297 => (some (a0_0, t1293, t1297))) else (none)) = some (r1, r2, r3) := H
    have A7 := Aside0.mk A70
    clear A70
    have c8b0 := eq_true (of_decide_eq_true (by first | (with_reducible assumption) | assumption) : 0 ≤ a1)
    have c9b0 := eq_true (of_decide_eq_true (by first | (with_reducible assumption) | assumption) : a1 ≤ a2)
    by_cases c10 : a2 ≤ (l0_2.length : Int)
    ·rw [if_pos c10] at H
     have c10b0 := eq_true c10
     have c10b1 : decide (a2 ≤ (l0_2.length : Int)) = true := decide_eq_true c10
     clear c10
     replace H := Option.bind_eq_some_iff.mp H
     obtain ⟨t1297, A110, H⟩ := H
     replace H : (some (a0_0, t1293, t1297)) = some (r1, r2, r3) := H
     have A11 := Aside0.mk A110
     clear A110
     simp only [Option.some.injEq, Prod.mk.injEq] at H
     obtain ⟨rfl, rfl, rfl⟩ := H
     go_enter Try.func89, Try.ntmps89
     try go_wp2_with (first | ((with_reducible refine gate_dst (N := 3) rfl ?_); refine box_event ?hg (N := 3) ?hd (cs := #[.int .i64 a0_0, .slice A0_1 l0_1.length c0_1, .slice A0_2 l0_2.length c0_2]) (t := 29) ?hr ?_; (case hd => rfl); (case hg => rfl); (case hr => first | (go_simp; done) | (go_simp; rfl)); intro gb1290 hg w12 hbox hb; have n0_ := Aside0.mk (below_step ZB hb); have n1_ := Aside0.mk (hbox); have n2_ := Aside0.mk ((ZG hg : w.heap.size ≤ gb1290)); have n3_ := Aside0.mk ((ZG hg : w.heap.size ≤ gb1290)); clear HB; have HB := n0_; have BK1290 := n1_; have GW1290 := n2_; have GE1290 := n3_; clear n0_ n1_ n2_ n3_; clear hb hbox hg) | ((with_reducible refine gate_dst (N := 6) rfl ?_); refine box_event ?hg (N := 6) ?hd (cs := #[.int .i64 0, .slice none 0 0, .slice none 0 0]) (t := 29) ?hr ?_; (case hd => rfl); (case hg => rfl); (case hr => first | (go_simp; done) | (go_simp; rfl)); intro gb1291 hg w13 hbox hb; have n0_ := ZL BK1290 hb; have n1_ := Aside0.mk (below_step ZB hb); have n2_ := Aside0.mk (hbox); have n3_ := Aside0.mk ((ZG hg : w.heap.size ≤ gb1291)); have n4_ := Aside0.mk ((ZG hg : w.heap.size ≤ gb1291)); have n5_ := Aside0.mk ((ZN hg BK1290 : gb1290 ≠ gb1291)); have n6_ := Aside0.mk ((ZM hg BK1290 : gb1291 ≠ gb1290)); clear BK1290; clear HB; have BK1290 := n0_; have HB := n1_; have BK1291 := n2_; have GW1291 := n3_; have GE1291 := n4_; have NB1290_1291 := n5_; have NB1291_1290 := n6_; clear n0_ n1_ n2_ n3_ n4_ n5_ n6_; clear hb hbox hg))
     have n0_ := Aside0.mk (blk_drew BK1290.out)
     have n1_ := Aside0.mk (blk_drew BK1291.out)
     have n2_ := Aside0.mk (below_drew1 HB.out)
     clear BK1290
     clear BK1291
     clear HB
     have BK1290 := n0_
     have BK1291 := n1_
     have HB := n2_
     clear n0_ n1_ n2_
     obtain ⟨i015, hi015, _, hsz15, _⟩ := info_parts info2
     obtain ⟨A15, hcut15, hA15, hC15⟩ := print_mid_of (P := Try.prog) (Value.int .i64) 0 22 2 .i64 .i64 Try.underlying22 hi015 hsz15 A0_1 c0_1 l0_1 a1 a2 (of_decide_eq_true (by first | (with_reducible assumption) | assumption)) (by first | omega | exact of_decide_eq_true (by first | (with_reducible assumption) | assumption)) (of_decide_eq_true (by first | (with_reducible assumption) | assumption)) HC0_1.out
     have HR1292 := Aside0.mk (Kd.C_of_reads (h1 := fun _ => rfl) (hA15 _ (Kd.reads_of_C HR0_1.out)))
     have HC1292 := Aside0.mk hC15
     clear hA15 hC15 hi015 hsz15
     obtain ⟨i016, hi016, _, hsz16, _⟩ := info_parts info2
     obtain ⟨A16, hcut16, hA16, hC16⟩ := print_mid_of (P := Try.prog) (Value.int .i64) 0 22 2 .i64 .i64 Try.underlying22 hi016 hsz16 A0_2 c0_2 l0_2 a1 a2 (of_decide_eq_true (by first | (with_reducible assumption) | assumption)) (by first | omega | exact of_decide_eq_true (by first | (with_reducible assumption) | assumption)) (of_decide_eq_true (by first | (with_reducible assumption) | assumption)) HC0_2.out
     have HR1296 := Aside0.mk (Kd.C_of_reads (h1 := fun _ => rfl) (hA16 _ (Kd.reads_of_C HR0_2.out)))
     have HC1296 := Aside0.mk hC16
     clear hA16 hC16 hi016 hsz16
     refine start_ (n := 16) (S := fun w' => w'.cell? ⟨gb1290, 0, none⟩ = some (.int .i64 a0_0) ∧ w'.cell? ⟨gb1290, 1, none⟩ = some (.slice A0_1 l0_1.length c0_1) ∧ w'.cell? ⟨gb1290, 2, none⟩ = some (.slice A0_2 l0_2.length c0_2)) (ds := []) #[false, false, false, false, false, false, false, false, false, false, false, false, false, false, false, false] (by kernel_rfl) rfl rfl ⟨(blk_cell BK1290.out 0).trans rfl, (blk_cell BK1290.out 1).trans rfl, (blk_cell BK1290.out 2).trans rfl⟩ (fun hHeld => ?_); refine with_tabW impl_Jacobi_part.tab1 impl_Jacobi_part.bits1 (fun HT_ HW_ => ?_)
     generalize w13.drew = w14 at BK1290 BK1291 HB HR1292 HR1296 hHeld ⊢
     refine Zpt 0 (some 7) (h := ?_)
     refine Zpt 2 (some 9) (h := ?_)
     refine Zpt 4 (some 11) (h := ?_)
     refine Zpt 5 (some 12) (h := ?_)
     refine Zpt 8 (some 15) (h := ?_)
     refine Zpt 10 (some 17) (h := ?_)
     refine Zpt 11 (some 18) (h := ?_)
     refine ZtW3 1 (some 8) hHeld (h := ?_)
     refine ZtW3 3 (some 10) hHeld (h := ?_)
     refine Zpt 6 (some 13) (h := ?_)
     refine ZtW3 9 (some 16) hHeld (h := ?_)
     refine Zpt 12 (some 19) (h := ?_)
     refine one_ (i := 7) (N := some 14) #[true, true, true, true, true, true, true, true, true, true, true, true, true, false, false, false] rfl rfl (one_of HT_.out (by kernel_rfl)) (by decide) (fun K hK => ?_)
     refine goes_ Try.func60 (by kernel_rfl) rfl #[.slice A15 ((l0_1.take (a2 : Int).toNat).drop (a1 : Int).toNat).length (c0_1 - a1.toNat)] (by rfl) rfl rfl (by (try simp only [List.map_toArray, List.map_cons, List.map_nil]); first | done | (rw [show ((l0_1.take (a2 : Int).toNat).drop (a1 : Int).toNat).length = (a2.toNat - a1.toNat) from (by rw [List.length_drop, List.length_take]; have h_ : (a2 : Int) ≤ (l0_1.length : Int) := of_decide_eq_true (by first | (with_reducible assumption) | assumption); omega)] <;> rfl) | rfl | (simp only [List.length_drop, List.length_take]; rfl)) ?_
     with_reducible refine (slices_Clone_int64_int64.calls _ _ ((l0_1.take (a2 : Int).toNat).drop (a1 : Int).toNat) t1293 _ ?side1 ?side2 A7.out).mono ?_
     (case side1 => exact ZC HR1292)
     (case side2 => exact HC1292.out)
     rintro e w17 ⟨v1294, rfl, ho0, hb⟩
     refine ⟨_, rfl, ?_⟩
     have n0_ := Aside0.mk (Kd.R_lower ho0 (below_size ZB))
     have n1_ := ZL BK1290 hb
     have n2_ := ZL BK1291 hb
     have n3_ := Aside0.mk (below_step ZB hb)
     clear BK1290
     clear BK1291
     clear HB
     have HO1295 := n0_
     have BK1290 := n1_
     have BK1291 := n2_
     have HB := n3_
     clear n0_ n1_ n2_ n3_
     (try clear hb)
     (try clear hb2)
     (try clear hk)
     (try clear hi)
     (try clear ho0)
     refine hK.out _ _ ⟨(blk_cell BK1290.out 0).trans rfl, (blk_cell BK1290.out 1).trans rfl, (blk_cell BK1290.out 2).trans rfl⟩ (fun hHeld => ?_)
     clear hK K
     refine norm_ (a' := ?_) ?_ ?_
     rotate_left
     ·show Act.put _ (some 14) _ = _
      simp only [Act.put, List.setIfInBounds_toArray, List.set_cons_zero, List.set_cons_succ, i64_w, i32_w]
      rfl
     refine one_ (i := 13) (N := some 20) #[true, true, true, true, true, true, true, true, true, true, true, true, true, true, false, false] rfl rfl (one_of HT_.out (by kernel_rfl)) (by decide) (fun K hK => ?_)
     refine goes_ Try.func60 (by kernel_rfl) rfl #[.slice A16 ((l0_2.take (a2 : Int).toNat).drop (a1 : Int).toNat).length (c0_2 - a1.toNat)] (by rfl) rfl rfl (by (try simp only [List.map_toArray, List.map_cons, List.map_nil]); first | done | (rw [show ((l0_2.take (a2 : Int).toNat).drop (a1 : Int).toNat).length = (a2.toNat - a1.toNat) from (by rw [List.length_drop, List.length_take]; have h_ : (a2 : Int) ≤ (l0_2.length : Int) := of_decide_eq_true (by first | (with_reducible assumption) | assumption); omega)] <;> rfl) | rfl | (simp only [List.length_drop, List.length_take]; rfl)) ?_
     with_reducible refine (slices_Clone_int64_int64.calls _ _ ((l0_2.take (a2 : Int).toNat).drop (a1 : Int).toNat) t1297 _ ?side1 ?side2 A11.out).mono ?_
     (case side1 => exact ZC HR1296)
     (case side2 => exact HC1296.out)
     rintro e w18 ⟨v1298, rfl, ho0, hb⟩
     refine ⟨_, rfl, ?_⟩
     have n0_ := Aside0.mk (Kd.R_elder' (ZR HO1295) (Kd.R_base ho0) hb)
     have n1_ := Aside0.mk (Kd.R_lower (Kd.R_new' ho0 (Kd.R_lt (ZR HO1295))) (below_size ZB))
     have n2_ := ZL BK1290 hb
     have n3_ := ZL BK1291 hb
     have n4_ := Aside0.mk (below_step ZB hb)
     clear HO1295
     clear BK1290
     clear BK1291
     clear HB
     have HO1295 := n0_
     have HO1299 := n1_
     have BK1290 := n2_
     have BK1291 := n3_
     have HB := n4_
     clear n0_ n1_ n2_ n3_ n4_
     (try clear hb)
     (try clear hb2)
     (try clear hk)
     (try clear hi)
     (try clear ho0)
     obtain ⟨Ao19, co19, eo19⟩ := Kd.R_slice HO1299.out
     (first | subst eo19 | (injection eo19 with f1_ f2_ f3_; have f4_ := f1_.symm; have f5_ := f3_.symm; clear f1_ f2_ f3_; subst f4_; subst f5_))
     obtain ⟨Ao20, co20, eo20⟩ := Kd.R_slice HO1295.out
     (first | subst eo20 | (injection eo20 with f1_ f2_ f3_; have f4_ := f1_.symm; have f5_ := f3_.symm; clear f1_ f2_ f3_; subst f4_; subst f5_))
     refine hK.out _ _ ⟨(blk_cell BK1290.out 0).trans rfl, (blk_cell BK1290.out 1).trans rfl, (blk_cell BK1290.out 2).trans rfl⟩ (fun hHeld => ?_)
     clear hK K
     refine norm_ (a' := ?_) ?_ ?_
     rotate_left
     ·show Act.put _ (some 20) _ = _
      simp only [Act.put, List.setIfInBounds_toArray, List.set_cons_zero, List.set_cons_succ, i64_w, i32_w]
      rfl
     refine Zpt 14 (some 21) (h := ?_)
     refine one_ (i := 15) (N := none) #[true, true, true, true, true, true, true, true, true, true, true, true, true, true, true, true] rfl rfl (one_of HT_.out (by kernel_rfl)) (by decide) (fun K hK => ?_)
     have hs21 : w18.cell? ⟨gb1291, 0, none⟩ = some (.int .i64 0) := (blk_cell BK1291.out 0).trans rfl
     have hfs21 := blk_frozen BK1291.out 0
     have hns21_0 := NB1290_1291.out
     have hms21_0 := NB1291_1290.out
     have hs22 : w18.cell? ⟨gb1291, 1, none⟩ = some (.slice none 0 0) := (blk_cell BK1291.out 1).trans rfl
     have hfs22 := blk_frozen BK1291.out 1
     have hns22_0 := NB1290_1291.out
     have hms22_0 := NB1291_1290.out
     have hs23 : w18.cell? ⟨gb1291, 2, none⟩ = some (.slice none 0 0) := (blk_cell BK1291.out 2).trans rfl
     have hfs23 := blk_frozen BK1291.out 2
     have hns23_0 := NB1290_1291.out
     have hms23_0 := NB1291_1290.out
     refine skip_ (w1 := ?_) (by rfl) rfl ?_ ?_
     rotate_left
     ·go_simp
      rfl
     refine hK.out _ _ ⟨((cell_far (p := ⟨gb1291, _, none⟩) NB1290_1291.out _).trans (((cell_far (p := ⟨gb1291, _, none⟩) NB1290_1291.out _).trans (((cell_far (p := ⟨gb1291, _, none⟩) NB1290_1291.out _).trans (hHeld.1)))))), ((cell_far (p := ⟨gb1291, _, none⟩) NB1290_1291.out _).trans (((cell_far (p := ⟨gb1291, _, none⟩) NB1290_1291.out _).trans (((cell_far (p := ⟨gb1291, _, none⟩) NB1290_1291.out _).trans (hHeld.2.1)))))), ((cell_far (p := ⟨gb1291, _, none⟩) NB1290_1291.out _).trans (((cell_far (p := ⟨gb1291, _, none⟩) NB1290_1291.out _).trans (((cell_far (p := ⟨gb1291, _, none⟩) NB1290_1291.out _).trans (hHeld.2.2))))))⟩ (fun hHeld => ?_)
     clear hK K
     refine done_ (done_of HT_.out (by kernel_rfl)) ?_
     try go_wp2
     refine bodyPost_ret (results_cell_row rfl _ _ gb1291 29 #[.int .i64 a0_0, .slice Ao20 t1293.length co20, .slice Ao19 t1297.length co19] (0, 0) _ rfl (by refine ZS ?_; refine blk_put (cs := #[.int .i64 a0_0, .slice Ao20 t1293.length co20, .slice none 0 0]) ?_ 2 _ rfl; refine ZS ?_; refine blk_put (cs := #[.int .i64 a0_0, .slice none 0 0, .slice none 0 0]) ?_ 1 _ rfl; refine ZS ?_; refine blk_put (cs := #[.int .i64 0, .slice none 0 0, .slice none 0 0]) ?_ 0 _ rfl; refine ZS ?_; exact BK1291.out) Try.underlying29 rfl (by kernel_rfl)) rfl ?_
     exact ⟨_, _, by first | rfl | (simp [errW_none, errW_some] <;> rfl) | (simp [*, errW_none, errW_some] <;> rfl), by refine ZQ ?_; exact Kd.R_mono (Kd.R_far (p := ⟨gb1291, 2, none⟩) (Kd.R_far (p := ⟨gb1291, 1, none⟩) (Kd.R_far (p := ⟨gb1291, 0, none⟩) (Kd.R_types HO1295.out BK1291.out (by decide)) (fun _ hk => hk.2) (.int .i64 a0_0)) (fun _ hk => hk.2) (.slice Ao20 t1293.length co20)) (fun _ hk => hk.2) (.slice Ao19 t1297.length co19)) (fun _ hk => hk.1.2), by refine ZQ ?_; exact Kd.R_mono (Kd.R_far (p := ⟨gb1291, 2, none⟩) (Kd.R_far (p := ⟨gb1291, 1, none⟩) (Kd.R_far (p := ⟨gb1291, 0, none⟩) (Kd.R_types HO1299.out BK1291.out (by decide)) (fun _ hk => hk.2) (.int .i64 a0_0)) (fun _ hk => hk.2) (.slice Ao20 t1293.length co20)) (fun _ hk => hk.2) (.slice Ao19 t1297.length co19)) (fun _ hk => hk.1.2), ZB⟩
    ·rw [if_neg c10] at H
     exact absurd H (by simp)
   ·rw [if_neg c6] at H
    exact absurd H (by simp)
  ·rw [if_neg c5] at H
   exact absurd H (by simp)
 ·rw [if_neg c4] at H
  exact absurd H (by simp)

end Go.Proofs.Ytaclapojgdekpaa.X
