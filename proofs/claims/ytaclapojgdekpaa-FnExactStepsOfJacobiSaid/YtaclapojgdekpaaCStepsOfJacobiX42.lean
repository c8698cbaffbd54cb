/- Contracts of functions that the law reaches, printed by a program of this session; Lean checks them. -/
import Derived.Test.YtaclapojgdekpaaCStepsOfJacobiX0
import Derived.Test.YtaclapojgdekpaaCStepsOfJacobiX10
import Derived.Test.YtaclapojgdekpaaCStepsOfJacobiXZ
namespace Go.Proofs.Ytaclapojgdekpaa.X
open Go.RowKit Go.Proofs.YtaclapojgdekpaaW.PrintWords Go.Proofs.YtaclapojgdekpaaW.PrintLast Go.Proofs.YtaclapojgdekpaaW.PrintMore
attribute [local go_sem] max2_int min2_int max_two min_two max_three min_three max_four min_four   -- for this text's walks alone
set_option linter.unusedVariables false
set_option linter.unusedSimpArgs false

/-! ### laws_eqJacobiS: function 46 -/
def laws_eqJacobiS.l0 : Nat → List (S29) → List (S29) → Int → Option (Bool)
 | 0, _, _, _ => none
 | k + 1, x0, x1, x5 => if x5 < (x0.length : Int) then (if 0 ≤ x5 then (if x5 < (x1.length : Int) then ((laws_eqJacobi.f k ((rd_T29 x0 x5).f0) ((rd_T29 x0 x5).f1) ((rd_T29 x0 x5).f2) ((rd_T29 x1 x5).f0) ((rd_T29 x1 x5).f1) ((rd_T29 x1 x5).f2)).bind fun t1332 => (if t1332 = true then (laws_eqJacobiS.l0 k x0 x1 (wrap64 (x5 + 1))) else (some false))) else (none)) else (none)) else (some true)
def laws_eqJacobiS.f (k : Nat) (l0 : List (S29)) (l1 : List (S29)) : Option (Bool) := if (l0.length : Int) = (l1.length : Int) then (laws_eqJacobiS.l0 k l0 l1 0) else (some false)
theorem laws_eqJacobiS.mono_l : ∀ k, (∀ y0 y1 y2, LeO (laws_eqJacobiS.l0 k y0 y1 y2) (laws_eqJacobiS.l0 (k + 1) y0 y1 y2))
 | 0 => fun _ _ _ r h => by simp [laws_eqJacobiS.l0] at h
 | k + 1 => by
  have ih0 := laws_eqJacobiS.mono_l k
  ·intro y0 y1 y2
   unfold laws_eqJacobiS.l0
   repeat' first
   | (with_reducible exact ih0 _ _ _)
   | (with_reducible exact laws_eqJacobi.mono _ _ _ _ _ _ _)
   | (with_reducible exact LeO.refl _)
   | (with_reducible exact LeO.none _)
   | (with_reducible refine LeO.ite ?_ ?_)
   | (with_reducible refine LeO.bind ?_ (fun _ => ?_))
   | exact ih0 _ _ _
   | exact laws_eqJacobi.mono _ _ _ _ _ _ _
   | exact LeO.none _
   | refine LeO.ite ?_ ?_
   | refine LeO.bind ?_ (fun _ => ?_)
theorem laws_eqJacobiS.mono : ∀ a0 a1 k, LeO (laws_eqJacobiS.f k a0 a1) (laws_eqJacobiS.f (k + 1) a0 a1) := by
 intro a0 a1 k
 have ih0 := laws_eqJacobiS.mono_l k
 unfold laws_eqJacobiS.f
 repeat' first
   | (with_reducible exact ih0 _ _ _)
   | (with_reducible exact laws_eqJacobi.mono _ _ _ _ _ _ _)
   | (with_reducible exact LeO.refl _)
   | (with_reducible exact LeO.none _)
   | (with_reducible refine LeO.ite ?_ ?_)
   | (with_reducible refine LeO.bind ?_ (fun _ => ?_))
   | exact ih0 _ _ _
   | exact laws_eqJacobi.mono _ _ _ _ _ _ _
   | exact LeO.none _
   | refine LeO.ite ?_ ?_
   | refine LeO.bind ?_ (fun _ => ?_)
def laws_eqJacobiS.T6 : Bool × List (List Nat × List Nat) := (true, [([], []), ([], []), ([0, 1], [0, 1]), ([2], [2]), ([], []), ([], []), ([4, 5], [4, 5]), ([6], [6]), ([3, 7], [3, 7]), ([8], [8])])
def laws_eqJacobiS.B6 : List Nat := [0, 0, 3, 7, 0, 0, 48, 112, 255, 511]
theorem laws_eqJacobiS.tab6 : rtab .any (opsOf Try.f46 6) = laws_eqJacobiS.T6 := by kernel_rfl
theorem laws_eqJacobiS.bits6 : waitsOk laws_eqJacobiS.T6.2 laws_eqJacobiS.B6 = true := by kernel_rfl
set_option maxHeartbeats 8000000 in
set_option maxRecDepth 100000 in
theorem laws_eqJacobiS.calls (k : Nat) (A0 : Option Addr) (c0 : Nat) (l0 : List (S29)) (A1 : Option Addr) (c1 : Nat) (l1 : List (S29)) (r : Bool) (w : World) (hr0 : Kd.C k29 w A0 l0.length l0) (hc0 : l0.length ≤ c0) (hr1 : Kd.C k29 w A1 l1.length l1) (hc1 : l1.length ≤ c1) (h : laws_eqJacobiS.f k l0 l1 = some r) :
  Calls Try.prog 46 #[.slice A0 l0.length c0, .slice A1 l1.length c1] w fun e w' => e = .returned (.bool r) ∧ Below w.heap.size w w' := by
 have hu29 := Try.underlying29
 have HR0 := Aside0.mk hr0
 have HC0 := Aside0.mk hc0
 clear hr0 hc0
 have HR1 := Aside0.mk hr1
 have HC1 := Aside0.mk hc1
 clear hr1 hc1
 have HB := Aside0.mk (Below.refl w.heap.size w)
 have H : (if (l0.length : Int) = (l1.length : Int) then (laws_eqJacobiS.l0 k l0 l1 0) else (some false)) = some r := h
 clear h
 by_cases c3 : (l0.length : Int) = (l1.length : Int)
 ·rw [if_pos c3] at H
  have c3b0 : ((l0.length : Int) == (l1.length : Int)) = true := beq_iff_eq.mpr c3
  have c3b1 : ((l0.length : Int) != (l1.length : Int)) = false := bne_eq_false_iff_eq.mpr c3
  have c3b2 : (l0.length == l1.length) = true := by first | simpa using c3 | (simp at c3 ⊢; omega)
  clear c3
  have H' := Aside0.mk H
  clear H
  go_enter Try.func46, Try.ntmps46
  go_wp2
  go_loopg [5] k (fun kq v5 w' => ∃ (x5_1 : Int), v5 = .int .i64 x5_1 ∧ Aside0 (laws_eqJacobiS.l0 kq l0 l1 x5_1 = some r) ∧ Aside0 (kq ≤ k) ∧ Aside0 (Below w.heap.size w w'))
  case atStart => exact ⟨(0), (by first | rfl | (simp; done) | (simp [*]; done)), H', ⟨Nat.le_refl _⟩, ⟨ZB⟩⟩
  case round =>
   clear H'
   try clear c1
   try clear p2
   try clear c3
   try clear c3b0
   try clear c3b1
   try clear c3b2
   obtain ⟨x5_1, rfl, HA, HK1, HB⟩ := hrel
   cases gk with
   | zero => exact absurd HA.out (by simp [laws_eqJacobiS.l0])
   | succ k1 =>
    have H := HA.out
    clear HA
    simp only [laws_eqJacobiS.l0] at H
    by_cases c4 : x5_1 < (l0.length : Int)
    ·rw [if_pos c4] at H
     have c4b0 : decide (x5_1 < (l0.length : Int)) = true := decide_eq_true c4
     clear c4
     by_cases c5 : 0 ≤ x5_1
     ·rw [if_pos c5] at H
      have c5b0 : decide (0 ≤ x5_1) = true := decide_eq_true c5
      clear c5
      by_cases c6 : x5_1 < (l1.length : Int)
      ·rw [if_pos c6] at H
       have c6b0 : decide (x5_1 < (l1.length : Int)) = true := decide_eq_true c6
       clear c6
       replace H := Option.bind_eq_some_iff.mp H
       obtain ⟨t1332, A70, H⟩ := H
       replace H : (if t1332 = true then (laws_eqJacobiS.l0 k1 l0 l1 (wrap64 (x5_1 + 1))) else (some false)) = some r := H
       have A7 := Aside0.mk A70
       clear A70
       by_cases c8 : t1332 = true
       ·subst c8
        have H1 : (laws_eqJacobiS.l0 k1 l0 l1 (wrap64 (x5_1 + 1))) = some r := by rw [if_pos rfl] at H; exact H
        clear H
        have H := H1
        clear H1
        have H' := Aside0.mk H
        clear H
        try go_wp2
        have n0_ := Aside0.mk (below_drew1 HB.out)
        clear HB
        have HB := n0_
        clear n0_
        have p1330 : 0 ≤ (x5_1 : Int) := of_decide_eq_true (by first | (with_reducible assumption) | assumption)
        have q1330 : x5_1 < (l0.length : Int) := of_decide_eq_true (by first | (with_reducible assumption) | assumption)
        obtain ⟨ad1330, A1330_1, c1330_1, A1330_2, c1330_2, e1330, hx1330_0, hx1330_1, hx1330_2, hl1330_1, hi1330_1, hl1330_2, hi1330_2⟩ := at_T29 HR0.out x5_1 p1330 q1330
        have hw1330_2 := hx1330_2
        have hw1330_1 := hx1330_1
        have hw1330_0 := hx1330_0
        cases e1330
        replace hx1330_0 := (HB.out.cell (World.block_lt_of_cell? w _ hx1330_0)).trans hx1330_0
        replace hx1330_1 := (HB.out.cell (World.block_lt_of_cell? w _ hx1330_1)).trans hx1330_1
        replace hx1330_2 := (HB.out.cell (World.block_lt_of_cell? w _ hx1330_2)).trans hx1330_2
        have HR1330_1 := Aside0.mk hi1330_1
        have HC1330_1 := Aside0.mk hl1330_1
        clear hi1330_1 hl1330_1
        have HR1330_2 := Aside0.mk hi1330_2
        have HC1330_2 := Aside0.mk hl1330_2
        clear hi1330_2 hl1330_2
        replace p1330 := eq_true p1330
        replace q1330 := eq_true q1330
        have p1331 : 0 ≤ (x5_1 : Int) := of_decide_eq_true (by first | (with_reducible assumption) | assumption)
        have q1331 : x5_1 < (l1.length : Int) := of_decide_eq_true (by first | (with_reducible assumption) | assumption)
        obtain ⟨ad1331, A1331_1, c1331_1, A1331_2, c1331_2, e1331, hx1331_0, hx1331_1, hx1331_2, hl1331_1, hi1331_1, hl1331_2, hi1331_2⟩ := at_T29 HR1.out x5_1 p1331 q1331
        have hw1331_2 := hx1331_2
        have hw1331_1 := hx1331_1
        have hw1331_0 := hx1331_0
        cases e1331
        replace hx1331_0 := (HB.out.cell (World.block_lt_of_cell? w _ hx1331_0)).trans hx1331_0
        replace hx1331_1 := (HB.out.cell (World.block_lt_of_cell? w _ hx1331_1)).trans hx1331_1
        replace hx1331_2 := (HB.out.cell (World.block_lt_of_cell? w _ hx1331_2)).trans hx1331_2
        have HR1331_1 := Aside0.mk hi1331_1
        have HC1331_1 := Aside0.mk hl1331_1
        clear hi1331_1 hl1331_1
        have HR1331_2 := Aside0.mk hi1331_2
        have HC1331_2 := Aside0.mk hl1331_2
        clear hi1331_2 hl1331_2
        replace p1331 := eq_true p1331
        replace q1331 := eq_true q1331
        refine start_ (n := 10) (S := fun w' => w'.cell? (ad1330.add ((x5_1).toNat * 3)) = some (.int .i64 ((rd_T29 l0 x5_1).f0)) ∧ w'.cell? ⟨(ad1330.add ((x5_1).toNat * 3)).block, (ad1330.add ((x5_1).toNat * 3)).off + 1, none⟩ = some (.slice A1330_1 ((rd_T29 l0 x5_1).f1).length c1330_1) ∧ w'.cell? ⟨(ad1330.add ((x5_1).toNat * 3)).block, (ad1330.add ((x5_1).toNat * 3)).off + 2, none⟩ = some (.slice A1330_2 ((rd_T29 l0 x5_1).f2).length c1330_2) ∧ w'.cell? (ad1331.add ((x5_1).toNat * 3)) = some (.int .i64 ((rd_T29 l1 x5_1).f0)) ∧ w'.cell? ⟨(ad1331.add ((x5_1).toNat * 3)).block, (ad1331.add ((x5_1).toNat * 3)).off + 1, none⟩ = some (.slice A1331_1 ((rd_T29 l1 x5_1).f1).length c1331_1) ∧ w'.cell? ⟨(ad1331.add ((x5_1).toNat * 3)).block, (ad1331.add ((x5_1).toNat * 3)).off + 2, none⟩ = some (.slice A1331_2 ((rd_T29 l1 x5_1).f2).length c1331_2)) (ds := []) #[false, false, false, false, false, false, false, false, false, false] (by kernel_rfl) rfl rfl ⟨((HB.out.cell (World.block_lt_of_cell? w _ hw1330_0)).trans hw1330_0), ((HB.out.cell (World.block_lt_of_cell? w _ hw1330_1)).trans hw1330_1), ((HB.out.cell (World.block_lt_of_cell? w _ hw1330_2)).trans hw1330_2), ((HB.out.cell (World.block_lt_of_cell? w _ hw1331_0)).trans hw1331_0), ((HB.out.cell (World.block_lt_of_cell? w _ hw1331_1)).trans hw1331_1), ((HB.out.cell (World.block_lt_of_cell? w _ hw1331_2)).trans hw1331_2)⟩ (fun hHeld => ?_); refine with_tabW laws_eqJacobiS.tab6 laws_eqJacobiS.bits6 (fun HT_ HW_ => ?_)
        generalize wr.drew = w9 at HB HR1330_1 HR1330_2 HR1331_1 HR1331_2 hx1330_0 hx1330_1 hx1330_2 hx1331_0 hx1331_1 hx1331_2 hHeld ⊢
        refine Zpt 0 (some 17) (h := ?_)
        refine Zpt 1 (some 18) (h := ?_)
        refine Zpt 2 (some 19) (h := ?_)
        refine Zpt 4 (some 21) (h := ?_)
        refine Zpt 5 (some 22) (h := ?_)
        refine Zpt 6 (some 23) (h := ?_)
        refine ZtW6 3 (some 20) hHeld (h := ?_)
        refine ZtW6 7 (some 24) hHeld (h := ?_)
        refine one_ (i := 8) (N := some 25) #[true, true, true, true, true, true, true, true, true, false] rfl rfl (one_of HT_.out (by kernel_rfl)) (by decide) (fun K hK => ?_)
        refine goes_ Try.func19 (by kernel_rfl) rfl #[.agg #[.int .i64 ((rd_T29 l0 x5_1).f0), .slice A1330_1 ((rd_T29 l0 x5_1).f1).length c1330_1, .slice A1330_2 ((rd_T29 l0 x5_1).f2).length c1330_2], .agg #[.int .i64 ((rd_T29 l1 x5_1).f0), .slice A1331_1 ((rd_T29 l1 x5_1).f1).length c1331_1, .slice A1331_2 ((rd_T29 l1 x5_1).f2).length c1331_2]] (by rfl) rfl rfl ZA ?_
        with_reducible refine (laws_eqJacobi.calls k1 ((rd_T29 l0 x5_1).f0) _ _ ((rd_T29 l0 x5_1).f1) _ _ ((rd_T29 l0 x5_1).f2) ((rd_T29 l1 x5_1).f0) _ _ ((rd_T29 l1 x5_1).f1) _ _ ((rd_T29 l1 x5_1).f2) true _ ?side1 ?side2 ?side3 ?side4 ?side5 ?side6 ?side7 ?side8 A7.out).mono ?_
        (case side1 => exact ZC HR1330_1)
        (case side2 => exact HC1330_1.out)
        (case side3 => exact ZC HR1330_2)
        (case side4 => exact HC1330_2.out)
        (case side5 => exact ZC HR1331_1)
        (case side6 => exact HC1331_1.out)
        (case side7 => exact ZC HR1331_2)
        (case side8 => exact HC1331_2.out)
        rintro e w10 ⟨rfl, hb⟩
        refine ⟨_, rfl, ?_⟩
        have n0_ := Aside0.mk (below_step ZB hb)
        clear HB
        have HB := n0_
        clear n0_
        (try clear hb)
        (try clear hb2)
        (try clear hk)
        (try clear hi)
        refine hK.out _ _ ⟨((HB.out.cell (World.block_lt_of_cell? w _ hw1330_0)).trans hw1330_0), ((HB.out.cell (World.block_lt_of_cell? w _ hw1330_1)).trans hw1330_1), ((HB.out.cell (World.block_lt_of_cell? w _ hw1330_2)).trans hw1330_2), ((HB.out.cell (World.block_lt_of_cell? w _ hw1331_0)).trans hw1331_0), ((HB.out.cell (World.block_lt_of_cell? w _ hw1331_1)).trans hw1331_1), ((HB.out.cell (World.block_lt_of_cell? w _ hw1331_2)).trans hw1331_2)⟩ (fun hHeld => ?_)
        clear hK K
        refine norm_ (a' := ?_) ?_ ?_
        rotate_left
        ·show Act.put _ (some 25) _ = _
         simp only [Act.put, List.setIfInBounds_toArray, List.set_cons_zero, List.set_cons_succ, i64_w, i32_w]
         rfl
        refine Zpt 9 (some 26) (h := ?_)
        refine done_ (done_of HT_.out (by kernel_rfl)) ?_
        try go_wp2
        go_roundg k1
        case measure => have := HK1.out; omega
        case rel => exact ⟨(wrap64 (x5_1 + 1)), (by first | rfl | (simp; done) | (simp [*]; done)), H', ⟨by have := HK1.out; omega⟩, ⟨ZB⟩⟩
       ·replace c8 := Bool.eq_false_iff.mpr c8
        subst c8
        have H1 : (some false) = some r := by rw [if_neg (show ¬ (false = true) by decide)] at H; exact H
        clear H
        have H := H1
        clear H1
        obtain rfl := Option.some.inj H
        try go_wp2
        have n0_ := Aside0.mk (below_drew1 HB.out)
        clear HB
        have HB := n0_
        clear n0_
        have p1330 : 0 ≤ (x5_1 : Int) := of_decide_eq_true (by first | (with_reducible assumption) | assumption)
        have q1330 : x5_1 < (l0.length : Int) := of_decide_eq_true (by first | (with_reducible assumption) | assumption)
        obtain ⟨ad1330, A1330_1, c1330_1, A1330_2, c1330_2, e1330, hx1330_0, hx1330_1, hx1330_2, hl1330_1, hi1330_1, hl1330_2, hi1330_2⟩ := at_T29 HR0.out x5_1 p1330 q1330
        have hw1330_2 := hx1330_2
        have hw1330_1 := hx1330_1
        have hw1330_0 := hx1330_0
        cases e1330
        replace hx1330_0 := (HB.out.cell (World.block_lt_of_cell? w _ hx1330_0)).trans hx1330_0
        replace hx1330_1 := (HB.out.cell (World.block_lt_of_cell? w _ hx1330_1)).trans hx1330_1
        replace hx1330_2 := (HB.out.cell (World.block_lt_of_cell? w _ hx1330_2)).trans hx1330_2
        have HR1330_1 := Aside0.mk hi1330_1
        have HC1330_1 := Aside0.mk hl1330_1
        clear hi1330_1 hl1330_1
        have HR1330_2 := Aside0.mk hi1330_2
        have HC1330_2 := Aside0.mk hl1330_2
        clear hi1330_2 hl1330_2
        replace p1330 := eq_true p1330
        replace q1330 := eq_true q1330
        have p1331 : 0 ≤ (x5_1 : Int) := of_decide_eq_true (by first | (with_reducible assumption) | assumption)
        have q1331 : x5_1 < (l1.length : Int) := of_decide_eq_true (by first | (with_reducible assumption) | assumption)
        obtain ⟨ad1331, A1331_1, c1331_1, A1331_2, c1331_2, e1331, hx1331_0, hx1331_1, hx1331_2, hl1331_1, hi1331_1, hl1331_2, hi1331_2⟩ := at_T29 HR1.out x5_1 p1331 q1331
        have hw1331_2 := hx1331_2
        have hw1331_1 := hx1331_1
        have hw1331_0 := hx1331_0
        cases e1331
        replace hx1331_0 := (HB.out.cell (World.block_lt_of_cell? w _ hx1331_0)).trans hx1331_0
        replace hx1331_1 := (HB.out.cell (World.block_lt_of_cell? w _ hx1331_1)).trans hx1331_1
        replace hx1331_2 := (HB.out.cell (World.block_lt_of_cell? w _ hx1331_2)).trans hx1331_2
        have HR1331_1 := Aside0.mk hi1331_1
        have HC1331_1 := Aside0.mk hl1331_1
        clear hi1331_1 hl1331_1
        have HR1331_2 := Aside0.mk hi1331_2
        have HC1331_2 := Aside0.mk hl1331_2
        clear hi1331_2 hl1331_2
        replace p1331 := eq_true p1331
        replace q1331 := eq_true q1331
        refine start_ (n := 10) (S := fun w' => w'.cell? (ad1330.add ((x5_1).toNat * 3)) = some (.int .i64 ((rd_T29 l0 x5_1).f0)) ∧ w'.cell? ⟨(ad1330.add ((x5_1).toNat * 3)).block, (ad1330.add ((x5_1).toNat * 3)).off + 1, none⟩ = some (.slice A1330_1 ((rd_T29 l0 x5_1).f1).length c1330_1) ∧ w'.cell? ⟨(ad1330.add ((x5_1).toNat * 3)).block, (ad1330.add ((x5_1).toNat * 3)).off + 2, none⟩ = some (.slice A1330_2 ((rd_T29 l0 x5_1).f2).length c1330_2) ∧ w'.cell? (ad1331.add ((x5_1).toNat * 3)) = some (.int .i64 ((rd_T29 l1 x5_1).f0)) ∧ w'.cell? ⟨(ad1331.add ((x5_1).toNat * 3)).block, (ad1331.add ((x5_1).toNat * 3)).off + 1, none⟩ = some (.slice A1331_1 ((rd_T29 l1 x5_1).f1).length c1331_1) ∧ w'.cell? ⟨(ad1331.add ((x5_1).toNat * 3)).block, (ad1331.add ((x5_1).toNat * 3)).off + 2, none⟩ = some (.slice A1331_2 ((rd_T29 l1 x5_1).f2).length c1331_2)) (ds := []) #[false, false, false, false, false, false, false, false, false, false] (by kernel_rfl) rfl rfl ⟨((HB.out.cell (World.block_lt_of_cell? w _ hw1330_0)).trans hw1330_0), ((HB.out.cell (World.block_lt_of_cell? w _ hw1330_1)).trans hw1330_1), ((HB.out.cell (World.block_lt_of_cell? w _ hw1330_2)).trans hw1330_2), ((HB.out.cell (World.block_lt_of_cell? w _ hw1331_0)).trans hw1331_0), ((HB.out.cell (World.block_lt_of_cell? w _ hw1331_1)).trans hw1331_1), ((HB.out.cell (World.block_lt_of_cell? w _ hw1331_2)).trans hw1331_2)⟩ (fun hHeld => ?_); refine with_tabW laws_eqJacobiS.tab6 laws_eqJacobiS.bits6 (fun HT_ HW_ => ?_)
        generalize wr.drew = w11 at HB HR1330_1 HR1330_2 HR1331_1 HR1331_2 hx1330_0 hx1330_1 hx1330_2 hx1331_0 hx1331_1 hx1331_2 hHeld ⊢
        refine Zpt 0 (some 17) (h := ?_)
        refine Zpt 1 (some 18) (h := ?_)
        refine Zpt 2 (some 19) (h := ?_)
        refine Zpt 4 (some 21) (h := ?_)
        refine Zpt 5 (some 22) (h := ?_)
        refine Zpt 6 (some 23) (h := ?_)
        refine ZtW6 3 (some 20) hHeld (h := ?_)
        refine ZtW6 7 (some 24) hHeld (h := ?_)
        refine one_ (i := 8) (N := some 25) #[true, true, true, true, true, true, true, true, true, false] rfl rfl (one_of HT_.out (by kernel_rfl)) (by decide) (fun K hK => ?_)
        refine goes_ Try.func19 (by kernel_rfl) rfl #[.agg #[.int .i64 ((rd_T29 l0 x5_1).f0), .slice A1330_1 ((rd_T29 l0 x5_1).f1).length c1330_1, .slice A1330_2 ((rd_T29 l0 x5_1).f2).length c1330_2], .agg #[.int .i64 ((rd_T29 l1 x5_1).f0), .slice A1331_1 ((rd_T29 l1 x5_1).f1).length c1331_1, .slice A1331_2 ((rd_T29 l1 x5_1).f2).length c1331_2]] (by rfl) rfl rfl ZA ?_
        with_reducible refine (laws_eqJacobi.calls k1 ((rd_T29 l0 x5_1).f0) _ _ ((rd_T29 l0 x5_1).f1) _ _ ((rd_T29 l0 x5_1).f2) ((rd_T29 l1 x5_1).f0) _ _ ((rd_T29 l1 x5_1).f1) _ _ ((rd_T29 l1 x5_1).f2) false _ ?side1 ?side2 ?side3 ?side4 ?side5 ?side6 ?side7 ?side8 A7.out).mono ?_
        (case side1 => exact ZC HR1330_1)
        (case side2 => exact HC1330_1.out)
        (case side3 => exact ZC HR1330_2)
        (case side4 => exact HC1330_2.out)
        (case side5 => exact ZC HR1331_1)
        (case side6 => exact HC1331_1.out)
        (case side7 => exact ZC HR1331_2)
        (case side8 => exact HC1331_2.out)
        rintro e w12 ⟨rfl, hb⟩
        refine ⟨_, rfl, ?_⟩
        have n0_ := Aside0.mk (below_step ZB hb)
        clear HB
        have HB := n0_
        clear n0_
        (try clear hb)
        (try clear hb2)
        (try clear hk)
        (try clear hi)
        refine hK.out _ _ ⟨((HB.out.cell (World.block_lt_of_cell? w _ hw1330_0)).trans hw1330_0), ((HB.out.cell (World.block_lt_of_cell? w _ hw1330_1)).trans hw1330_1), ((HB.out.cell (World.block_lt_of_cell? w _ hw1330_2)).trans hw1330_2), ((HB.out.cell (World.block_lt_of_cell? w _ hw1331_0)).trans hw1331_0), ((HB.out.cell (World.block_lt_of_cell? w _ hw1331_1)).trans hw1331_1), ((HB.out.cell (World.block_lt_of_cell? w _ hw1331_2)).trans hw1331_2)⟩ (fun hHeld => ?_)
        clear hK K
        refine norm_ (a' := ?_) ?_ ?_
        rotate_left
        ·show Act.put _ (some 25) _ = _
         simp only [Act.put, List.setIfInBounds_toArray, List.set_cons_zero, List.set_cons_succ, i64_w, i32_w]
         rfl
        refine Zpt 9 (some 26) (h := ?_)
        refine done_ (done_of HT_.out (by kernel_rfl)) ?_
        try go_wp2
        go_ret
        exact ⟨by first | rfl | (simp [errW_none, errW_some] <;> rfl) | (simp [*, errW_none, errW_some] <;> rfl), ZB⟩
      ·rw [if_neg c6] at H
       exact absurd H (by simp)
     ·rw [if_neg c5] at H
      exact absurd H (by simp)
    ·rw [if_neg c4] at H
     have c4b0 : decide (x5_1 < (l0.length : Int)) = false := decide_eq_false c4
     clear c4
     obtain rfl := Option.some.inj H
     go_wp2
     go_ret
     exact ⟨by first | rfl | (simp [errW_none, errW_some] <;> rfl) | (simp [*, errW_none, errW_some] <;> rfl), ZB⟩
 ·rw [if_neg c3] at H
  have c3b0 : ((l0.length : Int) == (l1.length : Int)) = false := beq_eq_false_iff_ne.mpr c3
  have c3b1 : ((l0.length : Int) != (l1.length : Int)) = true := bne_iff_ne.mpr c3
  have c3b2 : (l0.length == l1.length) = false := by first | simpa using c3 | (simp at c3 ⊢; omega)
  obtain rfl := Option.some.inj H
  go_enter Try.func46, Try.ntmps46
  go_wp2
  go_ret
  exact ⟨by first | rfl | (simp [errW_none, errW_some] <;> rfl) | (simp [*, errW_none, errW_some] <;> rfl), ZB⟩

-- NOT PRINTED: function 47 (laws_markJacobiS)

/-! ### laws_heldJacobiS: function 48 -/
def laws_heldJacobiS.l0 : Nat → List (S29) → Int → Int → Option (Int)
 | 0, _, _, _ => none
 | k + 1, x0, x1, x5 => if x5 < (x0.length : Int) then (if 0 ≤ x5 then (if ((rd_T29 x0 x5).f0) = x1 then ((laws_heldInt64S.f k ((rd_T29 x0 x5).f1) (wrap64 (x1 + 1))).bind fun t1335 => (if t1335 < 0 then (some (-1)) else ((laws_heldInt64S.f k ((rd_T29 x0 x5).f2) t1335).bind fun t1337 => (if t1337 < 0 then (some (-1)) else (laws_heldJacobiS.l0 k x0 t1337 (wrap64 (x5 + 1))))))) else (some (-1))) else (none)) else (some x1)
def laws_heldJacobiS.f (k : Nat) (l0 : List (S29)) (a1 : Int) : Option (Int) := laws_heldJacobiS.l0 k l0 a1 0
theorem laws_heldJacobiS.mono_l : ∀ k, (∀ y0 y1 y2, LeO (laws_heldJacobiS.l0 k y0 y1 y2) (laws_heldJacobiS.l0 (k + 1) y0 y1 y2))
 | 0 => fun _ _ _ r h => by simp [laws_heldJacobiS.l0] at h
 | k + 1 => by
  have ih0 := laws_heldJacobiS.mono_l k
  ·intro y0 y1 y2
   unfold laws_heldJacobiS.l0
   repeat' first
   | (with_reducible exact ih0 _ _ _)
   | (with_reducible exact laws_heldInt64S.mono _ _ _)
   | (with_reducible exact LeO.refl _)
   | (with_reducible exact LeO.none _)
   | (with_reducible refine LeO.ite ?_ ?_)
   | (with_reducible refine LeO.bind ?_ (fun _ => ?_))
   | exact ih0 _ _ _
   | exact laws_heldInt64S.mono _ _ _
   | exact LeO.none _
   | refine LeO.ite ?_ ?_
   | refine LeO.bind ?_ (fun _ => ?_)
theorem laws_heldJacobiS.mono : ∀ a0 a1 k, LeO (laws_heldJacobiS.f k a0 a1) (laws_heldJacobiS.f (k + 1) a0 a1) := by
 intro a0 a1 k
 have ih0 := laws_heldJacobiS.mono_l k
 unfold laws_heldJacobiS.f
 repeat' first
   | (with_reducible exact ih0 _ _ _)
   | (with_reducible exact laws_heldInt64S.mono _ _ _)
   | (with_reducible exact LeO.refl _)
   | (with_reducible exact LeO.none _)
   | (with_reducible refine LeO.ite ?_ ?_)
   | (with_reducible refine LeO.bind ?_ (fun _ => ?_))
   | exact ih0 _ _ _
   | exact laws_heldInt64S.mono _ _ _
   | exact LeO.none _
   | refine LeO.ite ?_ ?_
   | refine LeO.bind ?_ (fun _ => ?_)
set_option maxHeartbeats 8000000 in
set_option maxRecDepth 100000 in
theorem laws_heldJacobiS.calls (k : Nat) (A0 : Option Addr) (c0 : Nat) (l0 : List (S29)) (a1 : Int) (r : Int) (w : World) (hr0 : Kd.C k29 w A0 l0.length l0) (hc0 : l0.length ≤ c0) (h : laws_heldJacobiS.f k l0 a1 = some r) :
  Calls Try.prog 48 #[.slice A0 l0.length c0, .int .i64 a1] w fun e w' => e = .returned (.int .i64 r) ∧ Drawn0 w w' := by
 have HR0 := Aside0.mk hr0
 have HC0 := Aside0.mk hc0
 clear hr0 hc0
 have H : (laws_heldJacobiS.l0 k l0 a1 0) = some r := h
 clear h
 have H' := Aside0.mk H
 clear H
 go_enter Try.func48, Try.ntmps48
 go_wp2
 go_loopg [1, 5] k (fun kq v1 v5 w' => ∃ (x1_1 : Int) (x5_1 : Int), v1 = .int .i64 x1_1 ∧ v5 = .int .i64 x5_1 ∧ Aside0 (laws_heldJacobiS.l0 kq l0 x1_1 x5_1 = some r) ∧ Aside0 (kq ≤ k) ∧ Drawn0 w w')
 case atStart => exact ⟨(a1), (0), (by first | rfl | (simp; done) | (simp [*]; done)), (by first | rfl | (simp; done) | (simp [*]; done)), H', ⟨Nat.le_refl _⟩, by repeat (first | exact Drawn0.refl _ | apply Drawn0.step)⟩
 case round =>
  clear H'
  try clear p2
  obtain ⟨x1_1, x5_1, rfl, rfl, HA, HK1, ⟨m1, rfl⟩⟩ := hrel
  cases gk with
  | zero => exact absurd HA.out (by simp [laws_heldJacobiS.l0])
  | succ k1 =>
   have H := HA.out
   clear HA
   simp only [laws_heldJacobiS.l0] at H
   by_cases c3 : x5_1 < (l0.length : Int)
   ·rw [if_pos c3] at H
    have c3b0 : decide (x5_1 < (l0.length : Int)) = true := decide_eq_true c3
    clear c3
    by_cases c4 : 0 ≤ x5_1
    ·rw [if_pos c4] at H
     have c4b0 : decide (0 ≤ x5_1) = true := decide_eq_true c4
     clear c4
     by_cases c5 : ((rd_T29 l0 x5_1).f0) = x1_1
     ·rw [if_pos c5] at H
      have c5b0 : (((rd_T29 l0 x5_1).f0) == x1_1) = true := beq_iff_eq.mpr c5
      have c5b1 : (((rd_T29 l0 x5_1).f0) != x1_1) = false := bne_eq_false_iff_eq.mpr c5
      clear c5
      replace H := Option.bind_eq_some_iff.mp H
      obtain ⟨t1335, A60, H⟩ := H
      replace H : (if t1335 < 0 then (some (-1)) else ((laws_heldInt64S.f k1 ((rd_T29 l0 x5_1).f2) t1335).bind fun t1337 => (if t1337 < 0 then (some (-1)) else (laws_heldJacobiS.l0 k1 l0 t1337 (wrap64 (x5_1 + 1)))))) = some r := H
      have A6 := Aside0.mk A60
      clear A60
      by_cases c7 : t1335 < 0
      ·rw [if_pos c7] at H
       have c7b0 : decide (t1335 < 0) = true := decide_eq_true c7
       clear c7
       obtain rfl := Option.some.inj H
       have p1333 : 0 ≤ (x5_1 : Int) := of_decide_eq_true (by first | (with_reducible assumption) | assumption)
       have q1333 : x5_1 < (l0.length : Int) := of_decide_eq_true (by first | (with_reducible assumption) | assumption)
       obtain ⟨ad1333, A1333_1, c1333_1, A1333_2, c1333_2, e1333, hx1333_0, hx1333_1, hx1333_2, hl1333_1, hi1333_1, hl1333_2, hi1333_2⟩ := at_T29 HR0.out x5_1 p1333 q1333
       cases e1333
       have HR1333_1 := Aside0.mk hi1333_1
       have HC1333_1 := Aside0.mk hl1333_1
       clear hi1333_1 hl1333_1
       have HR1333_2 := Aside0.mk hi1333_2
       have HC1333_2 := Aside0.mk hl1333_2
       clear hi1333_2 hl1333_2
       replace p1333 := eq_true p1333
       replace q1333 := eq_true q1333
       have p1334 : 0 ≤ (x5_1 : Int) := of_decide_eq_true (by first | (with_reducible assumption) | assumption)
       have q1334 : x5_1 < (l0.length : Int) := of_decide_eq_true (by first | (with_reducible assumption) | assumption)
       obtain ⟨ad1334, A1334_1, c1334_1, A1334_2, c1334_2, e1334, hx1334_0, hx1334_1, hx1334_2, hl1334_1, hi1334_1, hl1334_2, hi1334_2⟩ := at_T29 HR0.out x5_1 p1334 q1334
       obtain rfl : ad1333 = ad1334 := (by injection e1334)
       have HR1334_1 := Aside0.mk hi1334_1
       have HC1334_1 := Aside0.mk hl1334_1
       clear hi1334_1 hl1334_1
       have HR1334_2 := Aside0.mk hi1334_2
       have HC1334_2 := Aside0.mk hl1334_2
       clear hi1334_2 hl1334_2
       replace p1334 := eq_true p1334
       replace q1334 := eq_true q1334
       have ea_ := Option.some.inj (hx1333_1.symm.trans hx1334_1)
       injection ea_ with ea_ en_ ec_
       subst ea_
       subst ec_
       clear en_
       have ea_ := Option.some.inj (hx1333_2.symm.trans hx1334_2)
       injection ea_ with ea_ en_ ec_
       subst ea_
       subst ec_
       clear en_
       go_wp2_with (first | ((with_reducible refine gate_callee (f := 31) rfl ?_); refine goesL_ (some 27) rfl rfl Try.func31 (by kernel_rfl) rfl #[.slice A1333_1 ((rd_T29 l0 x5_1).f1).length c1333_1, .int .i64 (wrap64 (x1_1 + 1))] rfl ZA ?_; (with_reducible refine (laws_heldInt64S.calls k1 _ _ ((rd_T29 l0 x5_1).f1) (wrap64 (x1_1 + 1)) t1335 _ ?side1 ?side2 A6.out).mono ?_); (case side1 => repeat (first | exact HR1334_1.out | (with_reducible refine Kd.C_alloc ?_ _) | (with_reducible refine Kd.C_drewN ?_ _) | (with_reducible refine Kd.C_drew ?_))); (case side2 => exact HC1334_1.out); rintro e w' ⟨rfl, ⟨nd, rfl⟩⟩; refine ⟨_, rfl, ?_⟩))
       go_ret
       exact ⟨by first | rfl | (simp; done) | (simp [*]; done), by repeat (first | exact Drawn0.refl _ | apply Drawn0.step)⟩
      ·rw [if_neg c7] at H
       have c7b0 : decide (t1335 < 0) = false := decide_eq_false c7
       clear c7
       replace H := Option.bind_eq_some_iff.mp H
       obtain ⟨t1337, A80, H⟩ := H
       replace H : (if t1337 < 0 then (some (-1)) else (laws_heldJacobiS.l0 k1 l0 t1337 (wrap64 (x5_1 + 1)))) = some r := H
       have A8 := Aside0.mk A80
       clear A80
       by_cases c9 : t1337 < 0
       ·rw [if_pos c9] at H
        have c9b0 : decide (t1337 < 0) = true := decide_eq_true c9
        clear c9
        obtain rfl := Option.some.inj H
        have p1333 : 0 ≤ (x5_1 : Int) := of_decide_eq_true (by first | (with_reducible assumption) | assumption)
        have q1333 : x5_1 < (l0.length : Int) := of_decide_eq_true (by first | (with_reducible assumption) | assumption)
        obtain ⟨ad1333, A1333_1, c1333_1, A1333_2, c1333_2, e1333, hx1333_0, hx1333_1, hx1333_2, hl1333_1, hi1333_1, hl1333_2, hi1333_2⟩ := at_T29 HR0.out x5_1 p1333 q1333
        cases e1333
        have HR1333_1 := Aside0.mk hi1333_1
        have HC1333_1 := Aside0.mk hl1333_1
        clear hi1333_1 hl1333_1
        have HR1333_2 := Aside0.mk hi1333_2
        have HC1333_2 := Aside0.mk hl1333_2
        clear hi1333_2 hl1333_2
        replace p1333 := eq_true p1333
        replace q1333 := eq_true q1333
        have p1334 : 0 ≤ (x5_1 : Int) := of_decide_eq_true (by first | (with_reducible assumption) | assumption)
        have q1334 : x5_1 < (l0.length : Int) := of_decide_eq_true (by first | (with_reducible assumption) | assumption)
        obtain ⟨ad1334, A1334_1, c1334_1, A1334_2, c1334_2, e1334, hx1334_0, hx1334_1, hx1334_2, hl1334_1, hi1334_1, hl1334_2, hi1334_2⟩ := at_T29 HR0.out x5_1 p1334 q1334
        obtain rfl : ad1333 = ad1334 := (by injection e1334)
        have HR1334_1 := Aside0.mk hi1334_1
        have HC1334_1 := Aside0.mk hl1334_1
        clear hi1334_1 hl1334_1
        have HR1334_2 := Aside0.mk hi1334_2
        have HC1334_2 := Aside0.mk hl1334_2
        clear hi1334_2 hl1334_2
        replace p1334 := eq_true p1334
        replace q1334 := eq_true q1334
        have ea_ := Option.some.inj (hx1333_1.symm.trans hx1334_1)
        injection ea_ with ea_ en_ ec_
        subst ea_
        subst ec_
        clear en_
        have ea_ := Option.some.inj (hx1333_2.symm.trans hx1334_2)
        injection ea_ with ea_ en_ ec_
        subst ea_
        subst ec_
        clear en_
        go_wp2_with (first | ((with_reducible refine gate_callee (f := 31) rfl ?_); refine goesL_ (some 27) rfl rfl Try.func31 (by kernel_rfl) rfl #[.slice A1333_1 ((rd_T29 l0 x5_1).f1).length c1333_1, .int .i64 (wrap64 (x1_1 + 1))] rfl ZA ?_; (with_reducible refine (laws_heldInt64S.calls k1 _ _ ((rd_T29 l0 x5_1).f1) (wrap64 (x1_1 + 1)) t1335 _ ?side1 ?side2 A6.out).mono ?_); (case side1 => repeat (first | exact HR1334_1.out | (with_reducible refine Kd.C_alloc ?_ _) | (with_reducible refine Kd.C_drewN ?_ _) | (with_reducible refine Kd.C_drew ?_))); (case side2 => exact HC1334_1.out); rintro e w' ⟨rfl, ⟨nd, rfl⟩⟩; refine ⟨_, rfl, ?_⟩; have p1336 : 0 ≤ (x5_1 : Int) := of_decide_eq_true (by first | (with_reducible assumption) | assumption); have q1336 : x5_1 < (l0.length : Int) := of_decide_eq_true (by first | (with_reducible assumption) | assumption); obtain ⟨ad1336, A1336_1, c1336_1, A1336_2, c1336_2, e1336, hx1336_0, hx1336_1, hx1336_2, hl1336_1, hi1336_1, hl1336_2, hi1336_2⟩ := at_T29 HR0.out x5_1 p1336 q1336; obtain rfl : ad1333 = ad1336 := (by injection e1336); have HR1336_1 := Aside0.mk hi1336_1; have HC1336_1 := Aside0.mk hl1336_1; clear hi1336_1 hl1336_1; have HR1336_2 := Aside0.mk hi1336_2; have HC1336_2 := Aside0.mk hl1336_2; clear hi1336_2 hl1336_2; replace p1336 := eq_true p1336; replace q1336 := eq_true q1336; have ea_ := Option.some.inj (hx1333_1.symm.trans hx1336_1); injection ea_ with ea_ en_ ec_; subst ea_; subst ec_; clear en_; have ea_ := Option.some.inj (hx1333_2.symm.trans hx1336_2); injection ea_ with ea_ en_ ec_; subst ea_; subst ec_; clear en_) | ((with_reducible refine gate_callee (f := 31) rfl ?_); refine goesL_ (some 36) rfl rfl Try.func31 (by kernel_rfl) rfl #[.slice A1333_2 ((rd_T29 l0 x5_1).f2).length c1333_2, .int .i64 t1335] rfl ZA ?_; (with_reducible refine (laws_heldInt64S.calls k1 _ _ ((rd_T29 l0 x5_1).f2) t1335 t1337 _ ?side1 ?side2 A8.out).mono ?_); (case side1 => repeat (first | exact HR1336_2.out | (with_reducible refine Kd.C_alloc ?_ _) | (with_reducible refine Kd.C_drewN ?_ _) | (with_reducible refine Kd.C_drew ?_))); (case side2 => exact HC1336_2.out); rintro e w' ⟨rfl, ⟨nd, rfl⟩⟩; refine ⟨_, rfl, ?_⟩))
        go_ret
        exact ⟨by first | rfl | (simp; done) | (simp [*]; done), by repeat (first | exact Drawn0.refl _ | apply Drawn0.step)⟩
       ·rw [if_neg c9] at H
        have c9b0 : decide (t1337 < 0) = false := decide_eq_false c9
        clear c9
        have H' := Aside0.mk H
        clear H
        have p1333 : 0 ≤ (x5_1 : Int) := of_decide_eq_true (by first | (with_reducible assumption) | assumption)
        have q1333 : x5_1 < (l0.length : Int) := of_decide_eq_true (by first | (with_reducible assumption) | assumption)
        obtain ⟨ad1333, A1333_1, c1333_1, A1333_2, c1333_2, e1333, hx1333_0, hx1333_1, hx1333_2, hl1333_1, hi1333_1, hl1333_2, hi1333_2⟩ := at_T29 HR0.out x5_1 p1333 q1333
        cases e1333
        have HR1333_1 := Aside0.mk hi1333_1
        have HC1333_1 := Aside0.mk hl1333_1
        clear hi1333_1 hl1333_1
        have HR1333_2 := Aside0.mk hi1333_2
        have HC1333_2 := Aside0.mk hl1333_2
        clear hi1333_2 hl1333_2
        replace p1333 := eq_true p1333
        replace q1333 := eq_true q1333
        have p1334 : 0 ≤ (x5_1 : Int) := of_decide_eq_true (by first | (with_reducible assumption) | assumption)
        have q1334 : x5_1 < (l0.length : Int) := of_decide_eq_true (by first | (with_reducible assumption) | assumption)
        obtain ⟨ad1334, A1334_1, c1334_1, A1334_2, c1334_2, e1334, hx1334_0, hx1334_1, hx1334_2, hl1334_1, hi1334_1, hl1334_2, hi1334_2⟩ := at_T29 HR0.out x5_1 p1334 q1334
        obtain rfl : ad1333 = ad1334 := (by injection e1334)
        have HR1334_1 := Aside0.mk hi1334_1
        have HC1334_1 := Aside0.mk hl1334_1
        clear hi1334_1 hl1334_1
        have HR1334_2 := Aside0.mk hi1334_2
        have HC1334_2 := Aside0.mk hl1334_2
        clear hi1334_2 hl1334_2
        replace p1334 := eq_true p1334
        replace q1334 := eq_true q1334
        have ea_ := Option.some.inj (hx1333_1.symm.trans hx1334_1)
        injection ea_ with ea_ en_ ec_
        subst ea_
        subst ec_
        clear en_
        have ea_ := Option.some.inj (hx1333_2.symm.trans hx1334_2)
        injection ea_ with ea_ en_ ec_
        subst ea_
        subst ec_
        clear en_
        go_wp2_with (first | ((with_reducible refine gate_callee (f := 31) rfl ?_); refine goesL_ (some 27) rfl rfl Try.func31 (by kernel_rfl) rfl #[.slice A1333_1 ((rd_T29 l0 x5_1).f1).length c1333_1, .int .i64 (wrap64 (x1_1 + 1))] rfl ZA ?_; (with_reducible refine (laws_heldInt64S.calls k1 _ _ ((rd_T29 l0 x5_1).f1) (wrap64 (x1_1 + 1)) t1335 _ ?side1 ?side2 A6.out).mono ?_); (case side1 => repeat (first | exact HR1334_1.out | (with_reducible refine Kd.C_alloc ?_ _) | (with_reducible refine Kd.C_drewN ?_ _) | (with_reducible refine Kd.C_drew ?_))); (case side2 => exact HC1334_1.out); rintro e w' ⟨rfl, ⟨nd, rfl⟩⟩; refine ⟨_, rfl, ?_⟩; have p1336 : 0 ≤ (x5_1 : Int) := of_decide_eq_true (by first | (with_reducible assumption) | assumption); have q1336 : x5_1 < (l0.length : Int) := of_decide_eq_true (by first | (with_reducible assumption) | assumption); obtain ⟨ad1336, A1336_1, c1336_1, A1336_2, c1336_2, e1336, hx1336_0, hx1336_1, hx1336_2, hl1336_1, hi1336_1, hl1336_2, hi1336_2⟩ := at_T29 HR0.out x5_1 p1336 q1336; obtain rfl : ad1333 = ad1336 := (by injection e1336); have HR1336_1 := Aside0.mk hi1336_1; have HC1336_1 := Aside0.mk hl1336_1; clear hi1336_1 hl1336_1; have HR1336_2 := Aside0.mk hi1336_2; have HC1336_2 := Aside0.mk hl1336_2; clear hi1336_2 hl1336_2; replace p1336 := eq_true p1336; replace q1336 := eq_true q1336; have ea_ := Option.some.inj (hx1333_1.symm.trans hx1336_1); injection ea_ with ea_ en_ ec_; subst ea_; subst ec_; clear en_; have ea_ := Option.some.inj (hx1333_2.symm.trans hx1336_2); injection ea_ with ea_ en_ ec_; subst ea_; subst ec_; clear en_) | ((with_reducible refine gate_callee (f := 31) rfl ?_); refine goesL_ (some 36) rfl rfl Try.func31 (by kernel_rfl) rfl #[.slice A1333_2 ((rd_T29 l0 x5_1).f2).length c1333_2, .int .i64 t1335] rfl ZA ?_; (with_reducible refine (laws_heldInt64S.calls k1 _ _ ((rd_T29 l0 x5_1).f2) t1335 t1337 _ ?side1 ?side2 A8.out).mono ?_); (case side1 => repeat (first | exact HR1336_2.out | (with_reducible refine Kd.C_alloc ?_ _) | (with_reducible refine Kd.C_drewN ?_ _) | (with_reducible refine Kd.C_drew ?_))); (case side2 => exact HC1336_2.out); rintro e w' ⟨rfl, ⟨nd, rfl⟩⟩; refine ⟨_, rfl, ?_⟩))
        go_roundg k1
        case measure => have := HK1.out; omega
        case rel => exact ⟨(t1337), (wrap64 (x5_1 + 1)), (by first | rfl | (simp; done) | (simp [*]; done)), (by first | rfl | (simp; done) | (simp [*]; done)), H', ⟨by have := HK1.out; omega⟩, by repeat (first | exact Drawn0.refl _ | apply Drawn0.step)⟩
     ·rw [if_neg c5] at H
      have c5b0 : (((rd_T29 l0 x5_1).f0) == x1_1) = false := beq_eq_false_iff_ne.mpr c5
      have c5b1 : (((rd_T29 l0 x5_1).f0) != x1_1) = true := bne_iff_ne.mpr c5
      obtain rfl := Option.some.inj H
      have p1333 : 0 ≤ (x5_1 : Int) := of_decide_eq_true (by first | (with_reducible assumption) | assumption)
      have q1333 : x5_1 < (l0.length : Int) := of_decide_eq_true (by first | (with_reducible assumption) | assumption)
      obtain ⟨ad1333, A1333_1, c1333_1, A1333_2, c1333_2, e1333, hx1333_0, hx1333_1, hx1333_2, hl1333_1, hi1333_1, hl1333_2, hi1333_2⟩ := at_T29 HR0.out x5_1 p1333 q1333
      cases e1333
      have HR1333_1 := Aside0.mk hi1333_1
      have HC1333_1 := Aside0.mk hl1333_1
      clear hi1333_1 hl1333_1
      have HR1333_2 := Aside0.mk hi1333_2
      have HC1333_2 := Aside0.mk hl1333_2
      clear hi1333_2 hl1333_2
      replace p1333 := eq_true p1333
      replace q1333 := eq_true q1333
      go_wp2
      go_ret
      exact ⟨by first | rfl | (simp; done) | (simp [*]; done), by repeat (first | exact Drawn0.refl _ | apply Drawn0.step)⟩
    ·rw [if_neg c4] at H
     exact absurd H (by simp)
   ·rw [if_neg c3] at H
    have c3b0 : decide (x5_1 < (l0.length : Int)) = false := decide_eq_false c3
    clear c3
    obtain rfl := Option.some.inj H
    go_wp2
    go_ret
    exact ⟨by first | rfl | (simp; done) | (simp [*]; done), by repeat (first | exact Drawn0.refl _ | apply Drawn0.step)⟩

-- NOT PRINTED: function 12 (laws_FnExactStepsOfJacobi)

end Go.Proofs.Ytaclapojgdekpaa.X
