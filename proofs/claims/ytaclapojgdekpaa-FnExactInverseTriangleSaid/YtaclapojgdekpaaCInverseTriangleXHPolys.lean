/- Jacobi's polynomials, all of them, as rows that lie apart. No conditions but the plain answer. -/
import Derived.Test.YtaclapojgdekpaaCInverseTriangleX22
namespace Go.Proofs.Ytaclapojgdekpaa.X
open Go.RowKit Go.Proofs.YtaclapojgdekpaaW.PrintWords Go.Proofs.YtaclapojgdekpaaW.PrintLast Go.Proofs.YtaclapojgdekpaaW.PrintMore
attribute [local go_sem] max2_int min2_int max_two min_two max_three min_three max_four min_four   -- for this text's walks alone
set_option linter.unusedVariables false
set_option linter.unusedSimpArgs false
set_option maxHeartbeats 8000000 in
set_option maxRecDepth 100000 in
theorem impl_Jacobi_polys.callsS (k : Nat) (a0_0 : Int) (A0_1 : Option Addr) (c0_1 : Nat) (l0_1 : List Int) (A0_2 : Option Addr) (c0_2 : Nat) (l0_2 : List Int) (r : List (List Int)) (w : World) (hr0_1 : Kd.C (Kd.int .i64) w A0_1 l0_1.length l0_1) (hc0_1 : l0_1.length ≤ c0_1) (hr0_2 : Kd.C (Kd.int .i64) w A0_2 l0_2.length l0_2) (hc0_2 : l0_2.length ≤ c0_2) (h : impl_Jacobi_polys.f k a0_0 l0_1 l0_2 = some r) :
  Calls Try.prog 73 #[.agg #[.int .i64 a0_0, .slice A0_1 l0_1.length c0_1, .slice A0_2 l0_2.length c0_2]] w fun e w' => ∃ v0_ : Value, e = .returned (v0_) ∧ Kd.S (Kd.slice 2 (Kd.int .i64)) 22 w' w.heap.size (fun k_ => (w.heap.size ≤ k_)) v0_ r ∧ Below w.heap.size w w' := by
 have hu29 := Try.underlying29
 have HR0_1 := Aside0.mk hr0_1
 have HC0_1 := Aside0.mk hc0_1
 clear hr0_1 hc0_1
 have HR0_2 := Aside0.mk hr0_2
 have HC0_2 := Aside0.mk hc0_2
 clear hr0_2 hc0_2
 have HB := Aside0.mk (Below.refl w.heap.size w)
 have H : (impl_Jacobi_polys.l0 k (([(([1] : List Int))] : List (List Int))) ([] : List Int) l0_1 (l0_1.length : Int) 0 a0_0 l0_1 l0_2) = some r := h
 clear h
 obtain ⟨y624, hy624⟩ : ∃ y_ : List Int, y_ = (([1] : List Int)) := ⟨_, rfl⟩
 replace H : (impl_Jacobi_polys.l0 k (([y624] : List (List Int))) ([] : List Int) l0_1 (l0_1.length : Int) 0 a0_0 l0_1 l0_2) = some r := by first | (rw [hy624]; with_reducible exact H) | (have H2_ := (Option.bind_some _ _).symm.trans H; rw [hy624]; with_reducible exact H2_) | (have H2_ := (Option.bind_some _ _).symm.trans H; with_reducible exact H2_) | with_reducible exact H | (rw [hy624]; exact H) | exact H
 have Ny624 := Aside0.mk hy624
 clear hy624
 obtain ⟨y627, hy627⟩ : ∃ y_ : List (List Int), y_ = (([y624] : List (List Int))) := ⟨_, rfl⟩
 replace H : (impl_Jacobi_polys.l0 k y627 ([] : List Int) l0_1 (l0_1.length : Int) 0 a0_0 l0_1 l0_2) = some r := by first | (rw [hy627]; with_reducible exact H) | (have H2_ := (Option.bind_some _ _).symm.trans H; rw [hy627]; with_reducible exact H2_) | (have H2_ := (Option.bind_some _ _).symm.trans H; with_reducible exact H2_) | with_reducible exact H | (rw [hy627]; exact H) | exact H
 have Ny627 := Aside0.mk hy627
 clear hy627
 have H' := Aside0.mk H
 clear H
 go_enter Try.func73, Try.ntmps73
 go_wp2_with (first | ((with_reducible refine gate_dst (N := 1) rfl ?_); refine box_event ?hg (N := 1) ?hd (cs := #[.int .i64 a0_0, .slice A0_1 l0_1.length c0_1, .slice A0_2 l0_2.length c0_2]) (t := 29) ?hr ?_; (case hd => rfl); (case hg => rfl); (case hr => first | (go_simp; done) | (go_simp; rfl)); intro gb623 hg w2 hbox hb; have n0_ := Aside0.mk (below_step ZB hb); have n1_ := Aside0.mk (hbox); have n2_ := Aside0.mk ((ZG hg : w.heap.size ≤ gb623)); have n3_ := Aside0.mk ((ZG hg : w.heap.size ≤ gb623)); clear HB; have HB := n0_; have BK623 := n1_; have GW623 := n2_; have GE623 := n3_; clear n0_ n1_ n2_ n3_; clear hb hbox hg) | ((with_reducible refine gate_dst (N := 8) rfl ?_); refine Kd.R_lit (Kd.int .i64) _ 2 ?hg (N := 8) ?hd (xs := ([1] : List Int)) (inner := [.int .i64 1]) (ok := fun _ => True) (okp := fun _ => True) ?hr ?hp (fun _ hk => hk) trivial (Below.refl _ _) (Nat.le_refl _) (by simp) ?_; (case hd => rfl); (case hg => rfl); (case hr => first | (go_simp; done) | (go_simp; rfl)); (case hp => exact (Reps.one (show Kd.M (Kd.int .i64) _ _ _ 1 [.int .i64 1] from rfl) (Reps.none _ _))); intro v625 w3 ho4 hb hg_ hnew_; clear hg_ hnew_; (first | rw [← Ny624.out] at ho4 | (simp only [Int.reduceToNat] at ho4; rw [← Ny624.out] at ho4)); have n0_ := Aside0.mk (Kd.R_lower (Kd.R_newM (M := fun k_ => (w.heap.size ≤ k_)) ho4 (below_size ZB) (fun k_ h_ => h_)) (below_size ZB)); have n1_ := ZL BK623 hb; have n2_ := Aside0.mk (below_step ZB hb); clear BK623; clear HB; have HO626 := n0_; have BK623 := n1_; have HB := n2_; clear n0_ n1_ n2_; clear hb ho4; obtain ⟨Ao5, co5, eo5⟩ := Kd.R_slice HO626.out; subst eo5) | ((with_reducible refine gate_dst (N := 9) rfl ?_); refine Kd.R_lit (Kd.tag (fun _ => 0) (Kd.slice 2 (Kd.int .i64))) (w0 := w) w.heap.size 22 ?hg (N := 9) ?hd (xs := [(y624, 0)]) (inner := [.slice Ao5 y624.length co5]) (ok := (fun k_ => (w.heap.size ≤ k_) ∧ k_ ≠ gb623)) (okp := (fun k_ => (w.heap.size ≤ k_) ∧ k_ ≠ gb623)) ?hr ?hp (fun _ hk => hk) ((show ∀ k_, w3.heap.size ≤ k_ → (fun k_ => (w.heap.size ≤ k_) ∧ k_ ≠ gb623) k_ from fun k_ hk => ⟨(Nat.le_trans (below_size ZB) hk), Kd.freshB (ZK BK623) k_ hk⟩) _ (Nat.le_refl _)) ZB (below_size ZB) (by simp) ?_; (case hd => rfl); (case hg => rfl); (case hr => first | (go_simp; done) | (go_simp; rfl)); (case hp => exact (Reps.one (show Kd.M (Kd.tag (fun _ => 0) (Kd.slice 2 (Kd.int .i64))) _ _ _ (y624, 0) [.slice Ao5 y624.length co5] from ⟨_, rfl, Kd.R_mono (Kd.R_types (HO626.out) BK623.out (by decide)) (fun k_ hk => (And.intro (And.intro (hk.1.1) (hk.2)) rfl))⟩) (Reps.none _ _))); intro v628 w6 ho7 hb hg_ hnew_; have hbk_ := Aside0.mk (hg_.block gb623 (blk_lt BK623.out) (by simp)); have ho7 : Kd.S (Kd.slice 2 (Kd.int .i64)) 22 w6 w.heap.size (fun k_ => (w.heap.size ≤ k_) ∧ k_ ≠ gb623) v628 [y624] := ⟨fun _ => 0, ho7⟩; clear hg_ hnew_; (first | rw [← Ny627.out] at ho7 | (simp only [Int.reduceToNat] at ho7; rw [← Ny627.out] at ho7)); have n0_ := Aside0.mk (ho7); have n1_ := Aside0.mk (hbk_.out.trans BK623.out); have n2_ := Aside0.mk (hb); clear BK623; clear HB; clear HO626; have HO629 := n0_; have BK623 := n1_; have HB := n2_; clear n0_ n1_ n2_; clear hb ho7; obtain ⟨hcz8_0, hcz8_1, hcz8_2, hfz8_0, hfz8_1, hfz8_2⟩ := ZD3 BK623))
 go_loopg [3, 4, 13] k (fun kq v3 v4 v13 w' => ∃ (x3_1 : List (List Int)) (x4_1 : List Int) (x13_1 : Int), v13 = .int .i64 x13_1 ∧ Aside0 (impl_Jacobi_polys.l0 kq x3_1 x4_1 l0_1 (l0_1.length : Int) x13_1 a0_0 l0_1 l0_2 = some r) ∧ Aside0 (kq ≤ k) ∧ Aside0 (Kd.S (Kd.slice 2 (Kd.int .i64)) 22 w' w.heap.size (fun k_ => (w.heap.size ≤ k_) ∧ k_ ≠ gb623) v3 x3_1) ∧ Aside0 (Kd.V (Kd.int .i64) 2 w' w.heap.size (fun k_ => (w.heap.size ≤ k_) ∧ some k_ ≠ (v3 : Value).ownBlock ∧ k_ ≠ gb623) v4 x4_1) ∧ Aside0 (w'.heap[gb623]? = some (.cells #[.int .i64 a0_0, (.slice A0_1 l0_1.length c0_1), (.slice A0_2 l0_2.length c0_2)] 29 (0, 0))) ∧ Aside0 (Below w.heap.size w w'))
 case atStart => exact ⟨(y627), (([] : List Int)), (0), (by first | rfl | (simp; done) | (simp [*]; done)), H', ⟨Nat.le_refl _⟩, ⟨by (with_reducible repeat (first | apply Kd.S_alloc | apply Kd.S_drewN | apply Kd.S_drew)); exact HO629.out⟩, ⟨Kd.V_nil _ _ _ _ _⟩, ⟨ZK BK623⟩, ⟨ZB⟩⟩
 case round =>
  clear H'
  try clear p2
  try clear c7
  try clear hcz8_0
  try clear hcz8_1
  try clear hcz8_2
  try clear hfz8_0
  try clear hfz8_1
  try clear hfz8_2
  obtain ⟨x3_1, x4_1, x13_1, rfl, HA, HK1, HO_3, HO_4, BK623, HB⟩ := hrel
  cases gk with
  | zero => exact absurd HA.out (by simp [impl_Jacobi_polys.l0])
  | succ k1 =>
   have H := HA.out
   clear HA
   simp only [impl_Jacobi_polys.l0] at H
   by_cases c9 : x13_1 < (l0_1.length : Int)
   ·rw [if_pos c9] at H
    have c9b0 : decide (x13_1 < (l0_1.length : Int)) = true := decide_eq_true c9
    clear c9
    by_cases c10 : 0 ≤ x13_1
    ·rw [if_pos c10] at H
     have c10b0 : decide (0 ≤ x13_1) = true := decide_eq_true c10
     clear c10
     by_cases c11 : x13_1 < (l0_1.length : Int)
     ·rw [if_pos c11] at H
      have c11b0 : decide (x13_1 < (l0_1.length : Int)) = true := decide_eq_true c11
      clear c11
      by_cases c12 : x13_1 < (x3_1.length : Int)
      ·rw [if_pos c12] at H
       have c12b0 : decide (x13_1 < (x3_1.length : Int)) = true := decide_eq_true c12
       clear c12
       replace H := Option.bind_eq_some_iff.mp H
       obtain ⟨t632, A130, H⟩ := H
       replace H : (if x13_1 < (l0_2.length : Int) then ((impl_field_next.f k1 t632 (rd l0_1 x13_1) (rd l0_2 x13_1) (rd_L1 x3_1 x13_1) x4_1).bind fun t634 => (if x3_1.length < 5864062014805 then (impl_Jacobi_polys.l0 k1 (x3_1 ++ [t634]) (rd_L1 x3_1 x13_1) l0_1 (l0_1.length : Int) (wrap64 (x13_1 + 1)) a0_0 l0_1 l0_2) else (none))) else (none)) = some r := H
       have A13 := Aside0.mk A130
       clear A130
       by_cases c14 : x13_1 < (l0_2.length : Int)
       ·rw [if_pos c14] at H
        have c14b0 : decide (x13_1 < (l0_2.length : Int)) = true := decide_eq_true c14
        clear c14
        replace H := Option.bind_eq_some_iff.mp H
        obtain ⟨t634, A150, H⟩ := H
        replace H : (if x3_1.length < 5864062014805 then (impl_Jacobi_polys.l0 k1 (x3_1 ++ [t634]) (rd_L1 x3_1 x13_1) l0_1 (l0_1.length : Int) (wrap64 (x13_1 + 1)) a0_0 l0_1 l0_2) else (none)) = some r := H
        have A15 := Aside0.mk A150
        clear A150
        by_cases c16 : x3_1.length < 5864062014805
        ·rw [if_pos c16] at H
         have LMc16 := Aside0.mk c16
         clear c16
         obtain ⟨y637, hy637⟩ : ∃ y_ : List (List Int), y_ = (x3_1 ++ [t634]) := ⟨_, rfl⟩
         replace H : (impl_Jacobi_polys.l0 k1 y637 (rd_L1 x3_1 x13_1) l0_1 (l0_1.length : Int) (wrap64 (x13_1 + 1)) a0_0 l0_1 l0_2) = some r := by first | (rw [hy637]; with_reducible exact H) | (have H2_ := (Option.bind_some _ _).symm.trans H; rw [hy637]; with_reducible exact H2_) | (have H2_ := (Option.bind_some _ _).symm.trans H; with_reducible exact H2_) | with_reducible exact H | (rw [hy637]; exact H) | exact H
         have Ny637 := Aside0.mk hy637
         clear hy637
         have H' := Aside0.mk H
         clear H
         have p630 : 0 ≤ (x13_1 : Int) := of_decide_eq_true (by first | (with_reducible assumption) | assumption)
         have q630 : x13_1 < (l0_1.length : Int) := of_decide_eq_true (by first | (with_reducible assumption) | assumption)
         obtain ⟨ad630, e630, hx630_0⟩ := Kd.at_int HR0_1.out x13_1 p630 q630
         cases e630
         replace hx630_0 := (HB.out.cell (World.block_lt_of_cell? w _ hx630_0)).trans hx630_0
         replace p630 := eq_true p630
         replace q630 := eq_true q630
         obtain ⟨Ao17, co17, eo17⟩ := Kd.S_slice HO_3.out
         subst eo17
         have p631 : 0 ≤ (x13_1 : Int) := of_decide_eq_true (by first | (with_reducible assumption) | assumption)
         have q631 : x13_1 < (x3_1.length : Int) := of_decide_eq_true (by first | (with_reducible assumption) | assumption)
         obtain ⟨ad631, A631_0, c631_0, e631, hx631_0, hl631_0, hi631_0⟩ := at_L1 (Kd.S_reads' HO_3.out).2.2 x13_1 p631 q631
         cases e631
         obtain ⟨ce631, hce631, hMe631, hcc631⟩ := Kd.N_get (Kd.S_N HO_3.out) [] x13_1 p631 (by first | exact q631 | exact of_decide_eq_true (by first | (with_reducible assumption) | assumption) | (have e_ := (Kd.S_reads' HO_3.out).1; omega))
         obtain ⟨ua631_0, uc631_0, rfl, ul631_0, ge631_0⟩ := Kd.FK_slice_open hMe631
         have hv631_0 := hcc631 0 _ rfl
         rw [Nat.add_zero, show ((Kd.slice 2 (Kd.int .i64))).sz = 1 from rfl, Nat.mul_one] at hv631_0
         replace hv631_0 := Option.some.inj (hv631_0.symm.trans hx631_0)
         injection hv631_0 with hva_ hvn_ hvc_
         rw [hva_] at ge631_0
         rw [hvc_] at ul631_0
         have HL631_0 := Aside0.mk (show Kd.V (Kd.int .i64) 2 _ w.heap.size _ _ (rd_L1 x3_1 x13_1) from Kd.V_mk ul631_0 ge631_0)
         clear hva_ hvn_ hvc_ ge631_0 ul631_0
         clear hcc631 hce631
         have HR631_0 := Aside0.mk hi631_0
         have HC631_0 := Aside0.mk hl631_0
         clear hi631_0 hl631_0
         replace p631 := eq_true p631
         replace q631 := eq_true q631
         try go_wp2
         have n0_ := Aside0.mk (Kd.S_drew HO_3.out)
         have n1_ := Aside0.mk (Kd.V_drew HO_4.out)
         have n2_ := Aside0.mk (Kd.V_drew HL631_0.out)
         have n3_ := Aside0.mk (blk_drew BK623.out)
         have n4_ := Aside0.mk (Kd.C_drew HR631_0.out)
         have n5_ := Aside0.mk (below_drew1 HB.out)
         clear HO_3
         clear HO_4
         clear HL631_0
         clear BK623
         clear HR631_0
         clear HB
         have HO_3 := n0_
         have HO_4 := n1_
         have HL631_0 := n2_
         have BK623 := n3_
         have HR631_0 := n4_
         have HB := n5_
         clear n0_ n1_ n2_ n3_ n4_ n5_
         have p633 : 0 ≤ (x13_1 : Int) := of_decide_eq_true (by first | (with_reducible assumption) | assumption)
         have q633 : x13_1 < (l0_2.length : Int) := of_decide_eq_true (by first | (with_reducible assumption) | assumption)
         obtain ⟨ad633, e633, hx633_0⟩ := Kd.at_int HR0_2.out x13_1 p633 q633
         have hw633_0 := hx633_0
         cases e633
         replace hx633_0 := (HB.out.cell (World.block_lt_of_cell? w _ hx633_0)).trans hx633_0
         replace p633 := eq_true p633
         replace q633 := eq_true q633
         refine start_ (n := 15) (S := fun w' => w'.cell? ⟨gb623, 0, none⟩ = some (.int .i64 a0_0) ∧ w'.cell? ⟨gb623, 1, none⟩ = some (.slice (some ad630) l0_1.length c0_1) ∧ w'.cell? ⟨gb623, 2, none⟩ = some (.slice (some ad633) l0_2.length c0_2) ∧ w'.cell? (ad633.add (x13_1).toNat) = some (.int .i64 (rd l0_2 x13_1))) (ds := []) #[false, false, false, false, false, false, false, false, false, false, false, false, false, false, false] (by kernel_rfl) rfl rfl ⟨(blk_cell BK623.out 0).trans rfl, (blk_cell BK623.out 1).trans rfl, (blk_cell BK623.out 2).trans rfl, ((HB.out.cell (World.block_lt_of_cell? w _ hw633_0)).trans hw633_0)⟩ (fun hHeld => ?_); refine with_tabW impl_Jacobi_polys.tab7 impl_Jacobi_polys.bits7 (fun HT_ HW_ => ?_)
         generalize wr.drew = w18 at HO_3 HO_4 HL631_0 BK623 HR631_0 HB hx633_0 hHeld ⊢
         refine Zpt 0 (some 22) (h := ?_)
         refine Zpt 3 (some 25) (h := ?_)
         refine Zpt 4 (some 26) (h := ?_)
         refine Zpt 6 (some 28) (h := ?_)
         refine Zpt 9 (some 31) (h := ?_)
         refine Zpt 10 (some 32) (h := ?_)
         refine ZtW4 1 (some 23) hHeld (h := ?_)
         refine ZtW4 5 (some 27) hHeld (h := ?_)
         refine Zpt 7 (some 29) (h := ?_)
         refine ZtW4 8 (some 30) hHeld (h := ?_)
         refine one_ (i := 2) (N := some 24) #[true, true, true, true, true, true, true, true, true, true, true, false, false, false, false] rfl rfl (one_of HT_.out (by kernel_rfl)) (by decide) (fun K hK => ?_)
         refine goes_ Try.func64 (by kernel_rfl) rfl #[.agg #[.int .i64 a0_0, .slice (some ad630) l0_1.length c0_1, .slice (some ad633) l0_2.length c0_2]] (by rfl) rfl rfl ZA ?_
         with_reducible refine (impl_Jacobi_field.calls a0_0 _ _ l0_1 _ _ l0_2 t632 _ ?side1 ?side2 ?side3 ?side4 A13.out).mono ?_
         (case side1 => exact ZC HR0_1)
         (case side2 => exact HC0_1.out)
         (case side3 => exact ZC HR0_2)
         (case side4 => exact HC0_2.out)
         rintro e w19 ⟨rfl, hb⟩
         refine ⟨_, rfl, ?_⟩
         have n0_ := Aside0.mk (Kd.S_below (by (with_reducible repeat (first | apply Kd.S_alloc | apply Kd.S_drewN | apply Kd.S_drew)); exact HO_3.out) hb)
         have n1_ := Aside0.mk (Kd.V_below (by (with_reducible repeat (first | apply Kd.V_alloc | apply Kd.V_drewN | apply Kd.V_drew)); exact HO_4.out) hb)
         have n2_ := Aside0.mk (Kd.V_below (by (with_reducible repeat (first | apply Kd.V_alloc | apply Kd.V_drewN | apply Kd.V_drew)); exact HL631_0.out) hb)
         have n3_ := ZL BK623 hb
         have n4_ := Aside0.mk (Kd.C_below (by repeat (first | (with_reducible exact HR631_0.out) | (with_reducible refine Kd.C_alloc ?_ _) | (with_reducible refine Kd.C_drewN ?_ _) | (with_reducible refine Kd.C_drew ?_) | exact HR631_0.out)) hb)
         have n5_ := Aside0.mk (below_step ZB hb)
         clear HO_3
         clear HO_4
         clear HL631_0
         clear BK623
         clear HR631_0
         clear HB
         have HO_3 := n0_
         have HO_4 := n1_
         have HL631_0 := n2_
         have BK623 := n3_
         have HR631_0 := n4_
         have HB := n5_
         clear n0_ n1_ n2_ n3_ n4_ n5_
         (try clear hb)
         (try clear hb2)
         (try clear hk)
         (try clear hi)
         obtain ⟨Ao20, co20, eo20⟩ := Kd.V_slice HO_4.out
         (first | subst eo20 | (injection eo20 with f1_ f2_ f3_; have f4_ := f1_.symm; have f5_ := f3_.symm; clear f1_ f2_ f3_; subst f4_; subst f5_))
         refine hK.out _ _ ⟨(blk_cell BK623.out 0).trans rfl, (blk_cell BK623.out 1).trans rfl, (blk_cell BK623.out 2).trans rfl, ((HB.out.cell (World.block_lt_of_cell? w _ hw633_0)).trans hw633_0)⟩ (fun hHeld => ?_)
         clear hK K
         refine norm_ (a' := ?_) ?_ ?_
         rotate_left
         ·show Act.put _ (some 24) _ = _
          simp only [Act.put, List.setIfInBounds_toArray, List.set_cons_zero, List.set_cons_succ, i64_w, i32_w]
          rfl
         refine one_ (i := 11) (N := some 33) #[true, true, true, true, true, true, true, true, true, true, true, true, false, false, false] rfl rfl (one_of HT_.out (by kernel_rfl)) (by decide) (fun K hK => ?_)
         refine goes_ Try.func108 (by kernel_rfl) rfl #[.int .i64 t632, .int .i64 (rd l0_1 x13_1), .int .i64 (rd l0_2 x13_1), .slice A631_0 (rd_L1 x3_1 x13_1).length c631_0, .slice Ao20 x4_1.length co20] (by rfl) rfl rfl ZA ?_
         with_reducible refine (impl_field_next.calls k1 t632 (rd l0_1 x13_1) (rd l0_2 x13_1) _ _ (rd_L1 x3_1 x13_1) _ _ x4_1 t634 _ ?side1 ?side2 ?side3 ?side4 A15.out).mono ?_
         (case side1 => repeat (first | exact (by repeat (first | (with_reducible exact HR631_0.out) | (with_reducible refine Kd.C_alloc ?_ _) | (with_reducible refine Kd.C_drewN ?_ _) | (with_reducible refine Kd.C_drew ?_) | exact HR631_0.out)) | (with_reducible refine Kd.C_alloc ?_ _) | (with_reducible refine Kd.C_drewN ?_ _) | (with_reducible refine Kd.C_drew ?_)))
         (case side2 => exact HC631_0.out)
         (case side3 => repeat (first | exact (Kd.V_reads' HO_4.out).2.2 | (with_reducible refine Kd.C_alloc ?_ _) | (with_reducible refine Kd.C_drewN ?_ _) | (with_reducible refine Kd.C_drew ?_)))
         (case side4 => exact (Kd.V_reads' HO_4.out).2.1)
         rintro e w21 ⟨v635, rfl, ho0, hb⟩
         refine ⟨_, rfl, ?_⟩
         have n0_ := Aside0.mk (Kd.S_elder' (by (with_reducible repeat (first | apply Kd.S_alloc | apply Kd.S_drewN | apply Kd.S_drew)); exact HO_3.out) (Kd.R_base ho0) hb)
         have n1_ := Aside0.mk (Kd.V_elder' (by (with_reducible repeat (first | apply Kd.V_alloc | apply Kd.V_drewN | apply Kd.V_drew)); exact HO_4.out) (Kd.R_base ho0) hb)
         have n2_ := Aside0.mk (Kd.V_elder' (by (with_reducible repeat (first | apply Kd.V_alloc | apply Kd.V_drewN | apply Kd.V_drew)); exact HL631_0.out) (Kd.R_base ho0) hb)
         have n3_ := Aside0.mk (Kd.R_lower (Kd.R_newM (M := fun k_ => (w.heap.size ≤ k_)) ho0 (below_size ZB) (fun k_ h_ => h_)) (below_size ZB))
         have n4_ := ZL BK623 hb
         have n5_ := Aside0.mk (Kd.C_below (by repeat (first | (with_reducible exact HR631_0.out) | (with_reducible refine Kd.C_alloc ?_ _) | (with_reducible refine Kd.C_drewN ?_ _) | (with_reducible refine Kd.C_drew ?_) | exact HR631_0.out)) hb)
         have n6_ := Aside0.mk (below_step ZB hb)
         clear HO_3
         clear HO_4
         clear HL631_0
         clear BK623
         clear HR631_0
         clear HB
         have HO_3 := n0_
         have HO_4 := n1_
         have HL631_0 := n2_
         have HO636 := n3_
         have BK623 := n4_
         have HR631_0 := n5_
         have HB := n6_
         clear n0_ n1_ n2_ n3_ n4_ n5_ n6_
         (try clear hb)
         (try clear hb2)
         (try clear hk)
         (try clear hi)
         (try clear ho0)
         obtain ⟨Ao23, co23, eo23⟩ := Kd.R_slice HO636.out
         (first | subst eo23 | (injection eo23 with f1_ f2_ f3_; have f4_ := f1_.symm; have f5_ := f3_.symm; clear f1_ f2_ f3_; subst f4_; subst f5_))
         refine hK.out _ _ ⟨(blk_cell BK623.out 0).trans rfl, (blk_cell BK623.out 1).trans rfl, (blk_cell BK623.out 2).trans rfl, ((HB.out.cell (World.block_lt_of_cell? w _ hw633_0)).trans hw633_0)⟩ (fun hHeld => ?_)
         clear hK K
         refine norm_ (a' := ?_) ?_ ?_
         rotate_left
         ·show Act.put _ (some 33) _ = _
          simp only [Act.put, List.setIfInBounds_toArray, List.set_cons_zero, List.set_cons_succ, i64_w, i32_w]
          rfl
         refine one_ (i := 12) (N := some 34) #[true, true, true, true, true, true, true, true, true, true, true, true, true, false, false] rfl rfl (one_of HT_.out (by kernel_rfl)) (by decide) (fun K hK => ?_)
         refine value_ (w1 := ?_) (v := ?_) (by rfl) rfl ?_ ?_
         rotate_left 2
         ·go_simp
          constructor
          ·rfl
          ·rfl
         refine hK.out _ _ ⟨(blk_cell (blk_alloc BK623.out _) 0).trans rfl, (blk_cell (blk_alloc BK623.out _) 1).trans rfl, (blk_cell (blk_alloc BK623.out _) 2).trans rfl, (World.cell?_alloc_lt _ _ _ (World.block_lt_of_cell? _ _ (((HB.out.cell (World.block_lt_of_cell? w _ hw633_0)).trans hw633_0)))).trans (((HB.out.cell (World.block_lt_of_cell? w _ hw633_0)).trans hw633_0))⟩ (fun hHeld => ?_)
         clear hK K
         refine norm_ (a' := ?_) ?_ ?_
         rotate_left
         ·show Act.put _ (some 34) _ = _
          simp only [Act.put, List.setIfInBounds_toArray, List.set_cons_zero, List.set_cons_succ, i64_w, i32_w]
          rfl
         refine one_ (i := 13) (N := some 35) #[true, true, true, true, true, true, true, true, true, true, true, true, true, true, false] rfl rfl (one_of HT_.out (by kernel_rfl)) (by decide) (fun K hK => ?_)
         refine Kd.S_append_step (Kd.slice 2 (Kd.int .i64)) (w0 := w) w.heap.size (by rfl) (.tmp 22) (.tmp 34) 26 22 (.slice none 0 0) 24 rfl Try.underlying26 info22 rfl (by decide) (by omega) (.slice (some ad631) x3_1.length co17) x3_1 t634 [.slice Ao23 t634.length co23] (fun k_ => (w.heap.size ≤ k_) ∧ k_ ≠ gb623) (fun k_ => ((fun k_ => (w.heap.size ≤ k_) ∧ k_ ≠ gb623) k_ ∧ some k_ ≠ (.slice (some ad631) x3_1.length co17 : Value).ownBlock) ∧ some k_ = (.slice Ao23 t634.length co23 : Value).ownBlock) rfl rfl ?aP (fun _ hk => hk.1) ?aF ?aO ?aB ?aS ?aL ?_
         (case aP => exact ⟨_, rfl, Kd.R_mono (Kd.R_tight2 rfl (Kd.R_types (Kd.R_apart' (HO636.out) (Kd.S_typed HO_3.out) (by decide)) BK623.out (by decide))) (fun k_ hk => ⟨⟨⟨hk.2.1.1.1, hk.2.2⟩, hk.2.1.2⟩, hk.1⟩)⟩)
         (case aB => exact ZB)
         (case aF => exact (fun k_ hk => ⟨(Nat.le_trans (below_size ZB) hk), Kd.freshB (ZK BK623) k_ hk⟩))
         (case aO => exact (by (with_reducible repeat (first | apply Kd.S_alloc | apply Kd.S_drewN | apply Kd.S_drew)); exact Kd.S_mono HO_3.out (fun _ hk => (And.intro (And.intro (hk.1.1) (hk.1.2)) (fun h_ => hk.2 h_.2)))))
         (case aS => exact (below_size ZB))
         (case aL => have := LMc16.out; omega)
         intro v638 w22 ho hb hg hat
         rw [← Ny637.out] at ho
         have n0_ := Aside0.mk (Kd.V_afterv (ok := (fun k_ => (w.heap.size ≤ k_) ∧ some k_ ≠ (.slice Ao23 t634.length co23 : Value).ownBlock ∧ k_ ≠ gb623)) (by (with_reducible repeat (first | apply Kd.V_alloc | apply Kd.V_drewN | apply Kd.V_drew)); exact Kd.V_mono HO_4.out (fun _ hk => (And.intro ((And.intro (hk.1.1) ((And.intro (hk.2) (hk.1.2.2))))) (hk.1.2.1)))) hg hat)
         have n1_ := Aside0.mk (blk_grown (ZK BK623) hg (Kd.S_ne HO_3.out BK623.out (by decide)))
         have n2_ := Aside0.mk (Kd.V_afterv (ok := (fun k_ => (w.heap.size ≤ k_) ∧ some k_ ≠ (.slice Ao23 t634.length co23 : Value).ownBlock ∧ k_ ≠ gb623)) (by (with_reducible repeat (first | apply Kd.V_alloc | apply Kd.V_drewN | apply Kd.V_drew)); exact Kd.V_mono HL631_0.out (fun _ hk => (And.intro ((And.intro (hk.1.1.1) ((And.intro (hk.2) (hk.1.1.2))))) (hk.1.2)))) hg hat)
         have n3_ := Aside0.mk (hb)
         have n4_ := Aside0.mk (ho)
         clear HO_4
         clear BK623
         clear HL631_0
         clear HB
         clear HO_3
         clear HO636
         have HO_4 := n0_
         have BK623 := n1_
         have HL631_0 := n2_
         have HB := n3_
         have HO639 := n4_
         clear n0_ n1_ n2_ n3_ n4_
         clear ho hb hg hat
         refine hK.out _ _ ⟨(blk_cell BK623.out 0).trans rfl, (blk_cell BK623.out 1).trans rfl, (blk_cell BK623.out 2).trans rfl, ((HB.out.cell (World.block_lt_of_cell? w _ hw633_0)).trans hw633_0)⟩ (fun hHeld => ?_)
         clear hK K
         refine norm_ (a' := ?_) ?_ ?_
         rotate_left
         ·show Act.put _ (some 35) _ = _
          simp only [Act.put, List.setIfInBounds_toArray, List.set_cons_zero, List.set_cons_succ, i64_w, i32_w]
          rfl
         refine Zpt 14 (some 3) (h := ?_)
         refine done_ (done_of HT_.out (by kernel_rfl)) ?_
         try go_wp2
         go_roundg k1
         case measure => have := HK1.out; omega
         case rel => exact ⟨(y637), (rd_L1 x3_1 x13_1), (wrap64 (x13_1 + 1)), (by first | rfl | (simp; done) | (simp [*]; done)), H', ⟨by have := HK1.out; omega⟩, ⟨by (with_reducible repeat (first | apply Kd.S_alloc | apply Kd.S_drewN | apply Kd.S_drew)); exact HO639.out⟩, ⟨by (with_reducible repeat (first | apply Kd.V_alloc | apply Kd.V_drewN | apply Kd.V_drew)); exact Kd.V_mono HL631_0.out (fun _ hk => (And.intro (hk.1.1) ((And.intro (hk.2) (hk.1.2.2)))))⟩, ⟨ZK BK623⟩, ⟨ZB⟩⟩
        ·rw [if_neg c16] at H
         exact absurd H (by simp)
       ·rw [if_neg c14] at H
        exact absurd H (by simp)
      ·rw [if_neg c12] at H
       exact absurd H (by simp)
     ·rw [if_neg c11] at H
      exact absurd H (by simp)
    ·rw [if_neg c10] at H
     exact absurd H (by simp)
   ·rw [if_neg c9] at H
    have c9b0 : decide (x13_1 < (l0_1.length : Int)) = false := decide_eq_false c9
    clear c9
    obtain rfl := Option.some.inj H
    go_wp2
    go_ret
    exact ⟨_, by first | rfl | (simp [errW_none, errW_some] <;> rfl) | (simp [*, errW_none, errW_some] <;> rfl), by (with_reducible repeat (first | apply Kd.S_alloc | apply Kd.S_drewN | apply Kd.S_drew)); exact Kd.S_mono HO_3.out (fun _ hk => hk.1), ZB⟩
end Go.Proofs.Ytaclapojgdekpaa.X
