/- Contracts of functions that the law reaches, printed by a program of this session; Lean checks them. -/
import Derived.Test.YtlodpobegdbhaaaCPathCountsX0
import Derived.Test.YtlodpobegdbhaaaCPathCountsX1
import Derived.Test.YtlodpobegdbhaaaCPathCountsX4
import Derived.Test.YtlodpobegdbhaaaCPathCountsXZ
namespace Go.Proofs.Ytlodpobegdbhaaa.X
open Go.RowKit Go.Proofs.YtlodpobegdbhaaaW.PrintWords Go.Proofs.YtlodpobegdbhaaaW.PrintLast Go.Proofs.YtlodpobegdbhaaaW.PrintMore
attribute [local go_sem] max2_int min2_int max_two min_two max_three min_three max_four min_four   -- for this text's walks alone
set_option linter.unusedVariables false
set_option linter.unusedSimpArgs false

/-! ### impl_heights: function 224 -/
def impl_heights.l0 : Nat → Int → List Int → List Int → Int → Int → Option (List Int × Bool)
 | 0, _, _, _, _, _ => none
 | k + 1, x1, x6, x12, x13, x14 => if x14 < x13 then (if 0 ≤ x14 then (if x14 < (x12.length : Int) then (if (rd x12 x14) = 85 then (if (wrap64 (x1 + 1)) < 0 then (some (([] : List Int), false)) else (if x6.length < 17592186044416 then (impl_heights.l0 k (wrap64 (x1 + 1)) (x6 ++ [wrap64 (x1 + 1)]) x12 x13 (wrap64 (x14 + 1))) else (none))) else (if (rd x12 x14) = 68 then (if (wrap64 (x1 - 1)) < 0 then (some (([] : List Int), false)) else (if x6.length < 17592186044416 then (impl_heights.l0 k (wrap64 (x1 - 1)) (x6 ++ [wrap64 (x1 - 1)]) x12 x13 (wrap64 (x14 + 1))) else (none))) else (if (rd x12 x14) = 76 then (if x1 < 0 then (some (([] : List Int), false)) else (if x6.length < 17592186044416 then (impl_heights.l0 k x1 (x6 ++ [x1]) x12 x13 (wrap64 (x14 + 1))) else (none))) else (some (([] : List Int), false))))) else (none)) else (none)) else (some (x6, true))
def impl_heights.f (k : Nat) (a0 : ByteArray) (a1 : Int) : Option (List Int × Bool) := if (a0.size : Int) ≤ 1000000 then ((some (bytesOf a0 : List Int)).bind fun y964 => (impl_heights.l0 k a1 (([a1] : List Int)) y964 (y964.length : Int) 0)) else (none)
theorem impl_heights.mono_l : ∀ k, (∀ y0 y1 y2 y3 y4, LeO (impl_heights.l0 k y0 y1 y2 y3 y4) (impl_heights.l0 (k + 1) y0 y1 y2 y3 y4))
 | 0 => fun _ _ _ _ _ r h => by simp [impl_heights.l0] at h
 | k + 1 => by
  have ih0 := impl_heights.mono_l k
  ·intro y0 y1 y2 y3 y4
   unfold impl_heights.l0
   repeat' first
   | (with_reducible exact ih0 _ _ _ _ _)
   | (with_reducible exact LeO.refl _)
   | (with_reducible exact LeO.none _)
   | (with_reducible refine LeO.ite ?_ ?_)
   | (with_reducible refine LeO.bind ?_ (fun _ => ?_))
   | exact ih0 _ _ _ _ _
   | exact LeO.none _
   | refine LeO.ite ?_ ?_
   | refine LeO.bind ?_ (fun _ => ?_)
theorem impl_heights.mono : ∀ a0 a1 k, LeO (impl_heights.f k a0 a1) (impl_heights.f (k + 1) a0 a1) := by
 intro a0 a1 k
 have ih0 := impl_heights.mono_l k
 unfold impl_heights.f
 repeat' first
   | (with_reducible exact ih0 _ _ _ _ _)
   | (with_reducible exact LeO.refl _)
   | (with_reducible exact LeO.none _)
   | (with_reducible refine LeO.ite ?_ ?_)
   | (with_reducible refine LeO.bind ?_ (fun _ => ?_))
   | exact ih0 _ _ _ _ _
   | exact LeO.none _
   | refine LeO.ite ?_ ?_
   | refine LeO.bind ?_ (fun _ => ?_)
set_option maxHeartbeats 8000000 in
set_option maxRecDepth 100000 in
theorem impl_heights.calls (k : Nat) (a0 : ByteArray) (a1 : Int) (r1 : List Int) (r2 : Bool) (w : World) (h : impl_heights.f k a0 a1 = some (r1, r2)) :
  Calls Try.prog 224 #[.string a0, .int .i64 a1] w fun e w' => ∃ v0_ : Value, e = .returned (.tuple #[v0_, .bool r2]) ∧ Kd.R (Kd.int .i64) 2 w' w.heap.size (fun _ => True) v0_ r1 ∧ Below w.heap.size w w' := by
 have HB := Aside0.mk (Below.refl w.heap.size w)
 have H : (if (a0.size : Int) ≤ 1000000 then ((some (bytesOf a0 : List Int)).bind fun y964 => (impl_heights.l0 k a1 (([a1] : List Int)) y964 (y964.length : Int) 0)) else (none)) = some (r1, r2) := h
 clear h
 obtain ⟨y961, hy961⟩ : ∃ y_ : List Int, y_ = (([a1] : List Int)) := ⟨_, rfl⟩
 replace H : (if (a0.size : Int) ≤ 1000000 then ((some (bytesOf a0 : List Int)).bind fun y964 => (impl_heights.l0 k a1 y961 y964 (y964.length : Int) 0)) else (none)) = some (r1, r2) := by have hq_ := hy961; exact ZqH
 have Ny961 := Aside0.mk hy961
 clear hy961
 by_cases c3 : (a0.size : Int) ≤ 1000000
 ·rw [if_pos c3] at H
  have c3b0 := eq_true c3
  have c3b1 : decide ((a0.size : Int) ≤ 1000000) = true := decide_eq_true c3
  clear c3
  obtain ⟨y964, hy964⟩ : ∃ y_ : List Int, y_ = (bytesOf a0) := ⟨_, rfl⟩
  replace H : (impl_heights.l0 k a1 y961 y964 (y964.length : Int) 0) = some (r1, r2) := by have hq_ := hy964; exact ZqH
  have Ny964 := Aside0.mk hy964
  clear hy964
  have H' := Aside0.mk H
  clear H
  go_enter Try.func224, Try.ntmps224
  go_wp2_with (first | ((with_reducible refine gate_dst (N := 10) rfl ?_); refine Kd.R_lit (Kd.int .i64) _ 2 ?hg (N := 10) ?hd (xs := ([a1] : List Int)) (inner := [.int .i64 a1]) (ok := fun _ => True) (okp := fun _ => True) ?hr ?hp (fun _ hk => hk) trivial (Below.refl _ _) (Nat.le_refl _) (by simp) ?_; (case hd => rfl); (case hg => rfl); (case hr => exact ZqT); (case hp => exact (Reps.one (show Kd.M (Kd.int .i64) _ _ _ a1 [.int .i64 a1] from rfl) (Reps.none _ _))); intro v962 w4 ho5 hb hg_ hnew_; clear hg_ hnew_; (first | rw [← Ny961.out] at ho5 | (simp only [Int.reduceToNat] at ho5; rw [← Ny961.out] at ho5)); have n0_ := Aside0.mk (Kd.R_lower ho5 (below_size ZB)); have n1_ := Aside0.mk (below_step ZB hb); clear HB; have HO963 := n0_; have HB := n1_; clear n0_ n1_; clear hb ho5) | ((with_reducible refine gate_dst (N := 12) rfl ?_); refine XV.V_conv _ 5 ?hg (N := 12) ?hd 9 22 (.tmp 11) a0 ?ho ?hx (by kernel_rfl) (by kernel_rfl) (by kernel_rfl) (ok := (fun k_ => some k_ ≠ (v962 : Value).ownBlock)) ((show ∀ k_, w4.heap.size ≤ k_ → (fun k_ => some k_ ≠ (v962 : Value).ownBlock) k_ from fun k_ hk => Kd.fresh' (Kd.R_lt (ZR HO963)) k_ hk) _ (Nat.le_refl _)) (Below.refl _ _) (Nat.le_refl _) ?hm ?_; (case hd => rfl); (case hg => rfl); (case ho => rfl); (case hx => rfl); (case hm => have := of_decide_eq_true (by first | (with_reducible assumption) | assumption : decide ((a0.size : Int) ≤ 1000000) = true); omega); intro v965 w6 ho7 hb hg_ hnew_; clear hg_ hnew_; rw [← Ny964.out] at ho7; have n0_ := Aside0.mk (Kd.R_below (ZR HO963) hb); have n1_ := Aside0.mk (Kd.V_lower ho7 (below_size ZB)); have n2_ := Aside0.mk (below_step ZB hb); clear HO963 HB; have HO963 := n0_; have HO966 := n1_; have HB := n2_; clear n0_ n1_ n2_; clear hb ho7; obtain ⟨Ao8, co8, eo8⟩ := Kd.V_slice HO966.out; subst eo8))
  go_loopg [1, 6, 14] k (fun kq v1 v6 v14 w' => ∃ (x1_1 : Int) (x6_1 : List Int) (x14_1 : Int), v1 = .int .i64 x1_1 ∧ v14 = .int .i64 x14_1 ∧ Aside0 (impl_heights.l0 kq x1_1 x6_1 y964 (y964.length : Int) x14_1 = some (r1, r2)) ∧ Aside0 (kq ≤ k) ∧ Aside0 (Kd.R (Kd.int .i64) 2 w' w.heap.size (fun _ => True) v6 x6_1) ∧ Aside0 (Kd.V (Kd.int .u8) 5 w' w.heap.size (fun k_ => some k_ ≠ (v6 : Value).ownBlock) (.slice Ao8 y964.length co8) y964) ∧ Aside0 (Below w.heap.size w w'))
  case atStart => exact ⟨(a1), (y961), (0), (ZqS), (ZqS), H', ⟨Nat.le_refl _⟩, ⟨ZR HO963⟩, ⟨by (with_reducible repeat (first | apply Kd.V_alloc | apply Kd.V_drewN | apply Kd.V_drew)); exact HO966.out⟩, ⟨ZB⟩⟩
  case round =>
   clear H'
   try clear c2
   try clear p2
   try clear c3
   try clear c3b0
   try clear c3b1
   obtain ⟨x1_1, x6_1, x14_1, rfl, rfl, HA, HK1, HO_6, HO_12, HB⟩ := hrel
   cases gk with
   | zero => exact absurd HA.out (by simp [impl_heights.l0])
   | succ k1 =>
    have H := HA.out
    clear HA
    simp only [impl_heights.l0] at H
    by_cases c9 : x14_1 < (y964.length : Int)
    ·rw [if_pos c9] at H
     have c9b0 : decide (x14_1 < (y964.length : Int)) = true := decide_eq_true c9
     clear c9
     by_cases c10 : 0 ≤ x14_1
     ·rw [if_pos c10] at H
      have c10b0 : decide (0 ≤ x14_1) = true := decide_eq_true c10
      clear c10
      by_cases c11 : x14_1 < (y964.length : Int)
      ·rw [if_pos c11] at H
       have c11b0 : decide (x14_1 < (y964.length : Int)) = true := decide_eq_true c11
       clear c11
       by_cases c12 : (rd y964 x14_1) = 85
       ·rw [if_pos c12] at H
        have c12b0 : ((rd y964 x14_1) == 85) = true := beq_iff_eq.mpr c12
        have c12b1 : ((rd y964 x14_1) != 85) = false := bne_eq_false_iff_eq.mpr c12
        clear c12
        by_cases c13 : (wrap64 (x1_1 + 1)) < 0
        ·rw [if_pos c13] at H
         have c13b0 : decide ((wrap64 (x1_1 + 1)) < 0) = true := decide_eq_true c13
         clear c13
         simp only [Option.some.injEq, Prod.mk.injEq] at H
         obtain ⟨rfl, rfl⟩ := H
         have p967 : 0 ≤ (x14_1 : Int) := of_decide_eq_true (by first | (with_reducible assumption) | assumption)
         have q967 : x14_1 < (y964.length : Int) := of_decide_eq_true (by first | (with_reducible assumption) | assumption)
         obtain ⟨ad967, e967, hx967_0⟩ := Kd.at_int (Kd.V_reads' HO_12.out).2.2 x14_1 p967 q967
         cases e967
         replace p967 := eq_true p967
         replace q967 := eq_true q967
         go_wp2
         go_ret2
         exact ⟨_, ZqR, by first | exact Kd.R_nil _ _ _ _ _ | exact Kd.N_nil _ _ _ _ _ | exact Kd.V_nil _ _ _ _ _ | exact Kd.Q_nil _ _ _ _ _ | exact Kd.S_nil _ _ _ _ _, ZB⟩
        ·rw [if_neg c13] at H
         have c13b0 : decide ((wrap64 (x1_1 + 1)) < 0) = false := decide_eq_false c13
         clear c13
         by_cases c14 : x6_1.length < 17592186044416
         ·rw [if_pos c14] at H
          have LMc14 := Aside0.mk c14
          clear c14
          obtain ⟨y968, hy968⟩ : ∃ y_ : List Int, y_ = (x6_1 ++ [wrap64 (x1_1 + 1)]) := ⟨_, rfl⟩
          replace H : (impl_heights.l0 k1 (wrap64 (x1_1 + 1)) y968 y964 (y964.length : Int) (wrap64 (x14_1 + 1))) = some (r1, r2) := by have hq_ := hy968; exact ZqH
          have Ny968 := Aside0.mk hy968
          clear hy968
          have H' := Aside0.mk H
          clear H
          have p967 : 0 ≤ (x14_1 : Int) := of_decide_eq_true (by first | (with_reducible assumption) | assumption)
          have q967 : x14_1 < (y964.length : Int) := of_decide_eq_true (by first | (with_reducible assumption) | assumption)
          obtain ⟨ad967, e967, hx967_0⟩ := Kd.at_int (Kd.V_reads' HO_12.out).2.2 x14_1 p967 q967
          cases e967
          replace p967 := eq_true p967
          replace q967 := eq_true q967
          go_wp2_with (first | ((with_reducible refine gate_builtin (b := .append) (xs := #[.tmp 31, .tmp 33]) rfl ?_); at_builtin; refine Kd.R_append (Kd.int .i64) (w0 := w) w.heap.size rfl (.tmp 31) (.tmp 33) 24 2 (.int .i64 0) 8 rfl Try.underlying24 info2 rfl (by decide) (by omega) u6 x6_1 (wrap64 (x1_1 + 1)) [.int .i64 (wrap64 (x1_1 + 1))] (fun _ => True) (fun _ => False) rfl rfl ?aP (fun _ hk => hk.elim) ?aF ?aO ?aB ?aS ?aL ?_; (case aP => exact rfl); (case aB => exact ZB); (case aF => exact (fun _ _ => trivial)); (case aO => exact (ZR HO_6)); (case aS => exact (below_size ZB)); (case aL => have := LMc14.out; omega); intro v969 w15 ho hb hg hat; rw [← Ny968.out] at ho; have n0_ := Aside0.mk (Kd.V_afterv (ok := (fun _ => True)) (by (with_reducible repeat (first | apply Kd.V_alloc | apply Kd.V_drewN | apply Kd.V_drew)); exact Kd.V_mono HO_12.out (fun _ hk => (And.intro (trivial) (hk)))) hg hat); have n1_ := Aside0.mk (hb); have n2_ := Aside0.mk (ho); clear HO_12 HB HO_6; have HO_12 := n0_; have HB := n1_; have HO970 := n2_; clear n0_ n1_ n2_; clear ho hb hg hat))
          go_roundg k1
          case measure => have := HK1.out; omega
          case rel => exact ⟨(wrap64 (x1_1 + 1)), (y968), (wrap64 (x14_1 + 1)), (ZqS), (ZqS), H', ⟨by have := HK1.out; omega⟩, ⟨ZR HO970⟩, ⟨by (with_reducible repeat (first | apply Kd.V_alloc | apply Kd.V_drewN | apply Kd.V_drew)); exact Kd.V_mono HO_12.out (fun _ hk => hk.2)⟩, ⟨ZB⟩⟩
         ·rw [if_neg c14] at H
          exact absurd H (by simp)
       ·rw [if_neg c12] at H
        have c12b0 : ((rd y964 x14_1) == 85) = false := beq_eq_false_iff_ne.mpr c12
        have c12b1 : ((rd y964 x14_1) != 85) = true := bne_iff_ne.mpr c12
        by_cases c16 : (rd y964 x14_1) = 68
        ·rw [if_pos c16] at H
         have c16b0 : ((rd y964 x14_1) == 68) = true := beq_iff_eq.mpr c16
         have c16b1 : ((rd y964 x14_1) != 68) = false := bne_eq_false_iff_eq.mpr c16
         clear c16
         by_cases c17 : (wrap64 (x1_1 - 1)) < 0
         ·rw [if_pos c17] at H
          have c17b0 : decide ((wrap64 (x1_1 - 1)) < 0) = true := decide_eq_true c17
          clear c17
          simp only [Option.some.injEq, Prod.mk.injEq] at H
          obtain ⟨rfl, rfl⟩ := H
          have p967 : 0 ≤ (x14_1 : Int) := of_decide_eq_true (by first | (with_reducible assumption) | assumption)
          have q967 : x14_1 < (y964.length : Int) := of_decide_eq_true (by first | (with_reducible assumption) | assumption)
          obtain ⟨ad967, e967, hx967_0⟩ := Kd.at_int (Kd.V_reads' HO_12.out).2.2 x14_1 p967 q967
          cases e967
          replace p967 := eq_true p967
          replace q967 := eq_true q967
          go_wp2
          go_ret2
          exact ⟨_, ZqR, by first | exact Kd.R_nil _ _ _ _ _ | exact Kd.N_nil _ _ _ _ _ | exact Kd.V_nil _ _ _ _ _ | exact Kd.Q_nil _ _ _ _ _ | exact Kd.S_nil _ _ _ _ _, ZB⟩
         ·rw [if_neg c17] at H
          have c17b0 : decide ((wrap64 (x1_1 - 1)) < 0) = false := decide_eq_false c17
          clear c17
          by_cases c18 : x6_1.length < 17592186044416
          ·rw [if_pos c18] at H
           have LMc18 := Aside0.mk c18
           clear c18
           obtain ⟨y971, hy971⟩ : ∃ y_ : List Int, y_ = (x6_1 ++ [wrap64 (x1_1 - 1)]) := ⟨_, rfl⟩
           replace H : (impl_heights.l0 k1 (wrap64 (x1_1 - 1)) y971 y964 (y964.length : Int) (wrap64 (x14_1 + 1))) = some (r1, r2) := by have hq_ := hy971; exact ZqH
           have Ny971 := Aside0.mk hy971
           clear hy971
           have H' := Aside0.mk H
           clear H
           have p967 : 0 ≤ (x14_1 : Int) := of_decide_eq_true (by first | (with_reducible assumption) | assumption)
           have q967 : x14_1 < (y964.length : Int) := of_decide_eq_true (by first | (with_reducible assumption) | assumption)
           obtain ⟨ad967, e967, hx967_0⟩ := Kd.at_int (Kd.V_reads' HO_12.out).2.2 x14_1 p967 q967
           cases e967
           replace p967 := eq_true p967
           replace q967 := eq_true q967
           go_wp2_with (first | ((with_reducible refine gate_builtin (b := .append) (xs := #[.tmp 31, .tmp 33]) rfl ?_); at_builtin; refine Kd.R_append (Kd.int .i64) (w0 := w) w.heap.size rfl (.tmp 31) (.tmp 33) 24 2 (.int .i64 0) 8 rfl Try.underlying24 info2 rfl (by decide) (by omega) u6 x6_1 (wrap64 (x1_1 - 1)) [.int .i64 (wrap64 (x1_1 - 1))] (fun _ => True) (fun _ => False) rfl rfl ?aP (fun _ hk => hk.elim) ?aF ?aO ?aB ?aS ?aL ?_; (case aP => exact rfl); (case aB => exact ZB); (case aF => exact (fun _ _ => trivial)); (case aO => exact (ZR HO_6)); (case aS => exact (below_size ZB)); (case aL => have := LMc18.out; omega); intro v972 w19 ho hb hg hat; rw [← Ny971.out] at ho; have n0_ := Aside0.mk (Kd.V_afterv (ok := (fun _ => True)) (by (with_reducible repeat (first | apply Kd.V_alloc | apply Kd.V_drewN | apply Kd.V_drew)); exact Kd.V_mono HO_12.out (fun _ hk => (And.intro (trivial) (hk)))) hg hat); have n1_ := Aside0.mk (hb); have n2_ := Aside0.mk (ho); clear HO_12 HB HO_6; have HO_12 := n0_; have HB := n1_; have HO973 := n2_; clear n0_ n1_ n2_; clear ho hb hg hat))
           go_roundg k1
           case measure => have := HK1.out; omega
           case rel => exact ⟨(wrap64 (x1_1 - 1)), (y971), (wrap64 (x14_1 + 1)), (ZqS), (ZqS), H', ⟨by have := HK1.out; omega⟩, ⟨ZR HO973⟩, ⟨by (with_reducible repeat (first | apply Kd.V_alloc | apply Kd.V_drewN | apply Kd.V_drew)); exact Kd.V_mono HO_12.out (fun _ hk => hk.2)⟩, ⟨ZB⟩⟩
          ·rw [if_neg c18] at H
           exact absurd H (by simp)
        ·rw [if_neg c16] at H
         have c16b0 : ((rd y964 x14_1) == 68) = false := beq_eq_false_iff_ne.mpr c16
         have c16b1 : ((rd y964 x14_1) != 68) = true := bne_iff_ne.mpr c16
         by_cases c20 : (rd y964 x14_1) = 76
         ·rw [if_pos c20] at H
          have c20b0 : ((rd y964 x14_1) == 76) = true := beq_iff_eq.mpr c20
          have c20b1 : ((rd y964 x14_1) != 76) = false := bne_eq_false_iff_eq.mpr c20
          clear c20
          by_cases c21 : x1_1 < 0
          ·rw [if_pos c21] at H
           have c21b0 : decide (x1_1 < 0) = true := decide_eq_true c21
           clear c21
           simp only [Option.some.injEq, Prod.mk.injEq] at H
           obtain ⟨rfl, rfl⟩ := H
           have p967 : 0 ≤ (x14_1 : Int) := of_decide_eq_true (by first | (with_reducible assumption) | assumption)
           have q967 : x14_1 < (y964.length : Int) := of_decide_eq_true (by first | (with_reducible assumption) | assumption)
           obtain ⟨ad967, e967, hx967_0⟩ := Kd.at_int (Kd.V_reads' HO_12.out).2.2 x14_1 p967 q967
           cases e967
           replace p967 := eq_true p967
           replace q967 := eq_true q967
           go_wp2
           go_ret2
           exact ⟨_, ZqR, by first | exact Kd.R_nil _ _ _ _ _ | exact Kd.N_nil _ _ _ _ _ | exact Kd.V_nil _ _ _ _ _ | exact Kd.Q_nil _ _ _ _ _ | exact Kd.S_nil _ _ _ _ _, ZB⟩
          ·rw [if_neg c21] at H
           have c21b0 : decide (x1_1 < 0) = false := decide_eq_false c21
           clear c21
           by_cases c22 : x6_1.length < 17592186044416
           ·rw [if_pos c22] at H
            have LMc22 := Aside0.mk c22
            clear c22
            obtain ⟨y974, hy974⟩ : ∃ y_ : List Int, y_ = (x6_1 ++ [x1_1]) := ⟨_, rfl⟩
            replace H : (impl_heights.l0 k1 x1_1 y974 y964 (y964.length : Int) (wrap64 (x14_1 + 1))) = some (r1, r2) := by have hq_ := hy974; exact ZqH
            have Ny974 := Aside0.mk hy974
            clear hy974
            have H' := Aside0.mk H
            clear H
            have p967 : 0 ≤ (x14_1 : Int) := of_decide_eq_true (by first | (with_reducible assumption) | assumption)
            have q967 : x14_1 < (y964.length : Int) := of_decide_eq_true (by first | (with_reducible assumption) | assumption)
            obtain ⟨ad967, e967, hx967_0⟩ := Kd.at_int (Kd.V_reads' HO_12.out).2.2 x14_1 p967 q967
            cases e967
            replace p967 := eq_true p967
            replace q967 := eq_true q967
            go_wp2_with (first | ((with_reducible refine gate_builtin (b := .append) (xs := #[.tmp 31, .tmp 33]) rfl ?_); at_builtin; refine Kd.R_append (Kd.int .i64) (w0 := w) w.heap.size rfl (.tmp 31) (.tmp 33) 24 2 (.int .i64 0) 8 rfl Try.underlying24 info2 rfl (by decide) (by omega) u6 x6_1 x1_1 [.int .i64 x1_1] (fun _ => True) (fun _ => False) rfl rfl ?aP (fun _ hk => hk.elim) ?aF ?aO ?aB ?aS ?aL ?_; (case aP => exact rfl); (case aB => exact ZB); (case aF => exact (fun _ _ => trivial)); (case aO => exact (ZR HO_6)); (case aS => exact (below_size ZB)); (case aL => have := LMc22.out; omega); intro v975 w23 ho hb hg hat; rw [← Ny974.out] at ho; have n0_ := Aside0.mk (Kd.V_afterv (ok := (fun _ => True)) (by (with_reducible repeat (first | apply Kd.V_alloc | apply Kd.V_drewN | apply Kd.V_drew)); exact Kd.V_mono HO_12.out (fun _ hk => (And.intro (trivial) (hk)))) hg hat); have n1_ := Aside0.mk (hb); have n2_ := Aside0.mk (ho); clear HO_12 HB HO_6; have HO_12 := n0_; have HB := n1_; have HO976 := n2_; clear n0_ n1_ n2_; clear ho hb hg hat))
            go_roundg k1
            case measure => have := HK1.out; omega
            case rel => exact ⟨(x1_1), (y974), (wrap64 (x14_1 + 1)), (ZqS), (ZqS), H', ⟨by have := HK1.out; omega⟩, ⟨ZR HO976⟩, ⟨by (with_reducible repeat (first | apply Kd.V_alloc | apply Kd.V_drewN | apply Kd.V_drew)); exact Kd.V_mono HO_12.out (fun _ hk => hk.2)⟩, ⟨ZB⟩⟩
           ·rw [if_neg c22] at H
            exact absurd H (by simp)
         ·rw [if_neg c20] at H
          have c20b0 : ((rd y964 x14_1) == 76) = false := beq_eq_false_iff_ne.mpr c20
          have c20b1 : ((rd y964 x14_1) != 76) = true := bne_iff_ne.mpr c20
          simp only [Option.some.injEq, Prod.mk.injEq] at H
          obtain ⟨rfl, rfl⟩ := H
          have p967 : 0 ≤ (x14_1 : Int) := of_decide_eq_true (by first | (with_reducible assumption) | assumption)
          have q967 : x14_1 < (y964.length : Int) := of_decide_eq_true (by first | (with_reducible assumption) | assumption)
          obtain ⟨ad967, e967, hx967_0⟩ := Kd.at_int (Kd.V_reads' HO_12.out).2.2 x14_1 p967 q967
          cases e967
          replace p967 := eq_true p967
          replace q967 := eq_true q967
          go_wp2
          go_ret2
          exact ⟨_, ZqR, by first | exact Kd.R_nil _ _ _ _ _ | exact Kd.N_nil _ _ _ _ _ | exact Kd.V_nil _ _ _ _ _ | exact Kd.Q_nil _ _ _ _ _ | exact Kd.S_nil _ _ _ _ _, ZB⟩
      ·rw [if_neg c11] at H
       exact absurd H (by simp)
     ·rw [if_neg c10] at H
      exact absurd H (by simp)
    ·rw [if_neg c9] at H
     have c9b0 : decide (x14_1 < (y964.length : Int)) = false := decide_eq_false c9
     clear c9
     simp only [Option.some.injEq, Prod.mk.injEq] at H
     obtain ⟨rfl, rfl⟩ := H
     go_wp2
     go_ret2
     exact ⟨_, ZqR, by refine ZQ ?_; exact HO_6.out, ZB⟩
 ·rw [if_neg c3] at H
  exact absurd H (by simp)

/-! ### impl_pathHeights: function 143 -/
def impl_pathHeights.f (k : Nat) (a0 : ByteArray) (a1 : Int) (a2 : Int) : Option (List Int × Bool) := if (a0.size : Int) > 24 then (some (([] : List Int), false)) else ((impl_within.f a1 0 a2).bind fun t977 => (if t977 = true then ((impl_heights.f k a0 a1).bind fun bt978 => (some (bt978.1, bt978.2))) else (some (([] : List Int), false))))
theorem impl_pathHeights.mono : ∀ a0 a1 a2 k, LeO (impl_pathHeights.f k a0 a1 a2) (impl_pathHeights.f (k + 1) a0 a1 a2) := by
 intro a0 a1 a2 k
 unfold impl_pathHeights.f
 repeat' first
   | (with_reducible exact impl_heights.mono _ _ _)
   | (with_reducible exact LeO.refl _)
   | (with_reducible exact LeO.none _)
   | (with_reducible refine LeO.ite ?_ ?_)
   | (with_reducible refine LeO.bind ?_ (fun _ => ?_))
   | exact impl_heights.mono _ _ _
   | exact LeO.none _
   | refine LeO.ite ?_ ?_
   | refine LeO.bind ?_ (fun _ => ?_)
set_option maxHeartbeats 8000000 in
set_option maxRecDepth 100000 in
theorem impl_pathHeights.calls (k : Nat) (a0 : ByteArray) (a1 : Int) (a2 : Int) (r1 : List Int) (r2 : Bool) (w : World) (h : impl_pathHeights.f k a0 a1 a2 = some (r1, r2)) :
  Calls Try.prog 143 #[.string a0, .int .i64 a1, .int .i64 a2] w fun e w' => ∃ v0_ : Value, e = .returned (.tuple #[v0_, .bool r2]) ∧ Kd.R (Kd.int .i64) 2 w' w.heap.size (fun _ => True) v0_ r1 ∧ Below w.heap.size w w' := by
 have HB := Aside0.mk (Below.refl w.heap.size w)
 have H : (if (a0.size : Int) > 24 then (some (([] : List Int), false)) else ((impl_within.f a1 0 a2).bind fun t977 => (if t977 = true then ((impl_heights.f k a0 a1).bind fun bt978 => (some (bt978.1, bt978.2))) else (some (([] : List Int), false))))) = some (r1, r2) := h
 clear h
 by_cases c4 : (a0.size : Int) > 24
 ·rw [if_pos c4] at H
  have c4b0 : decide (24 < (a0.size : Int)) = true := decide_eq_true c4
  have c4b1 : decide (24 < a0.size) = true := decide_eq_true (by omega)
  clear c4
  simp only [Option.some.injEq, Prod.mk.injEq] at H
  obtain ⟨rfl, rfl⟩ := H
  go_enter Try.func143, Try.ntmps143
  go_wp2
  go_ret2
  exact ⟨_, ZqR, by first | exact Kd.R_nil _ _ _ _ _ | exact Kd.N_nil _ _ _ _ _ | exact Kd.V_nil _ _ _ _ _ | exact Kd.Q_nil _ _ _ _ _ | exact Kd.S_nil _ _ _ _ _, ZB⟩
 ·rw [if_neg c4] at H
  have c4b0 : decide (24 < (a0.size : Int)) = false := decide_eq_false c4
  have c4b1 : decide (24 < a0.size) = false := decide_eq_false (by omega)
  clear c4
  replace H := Option.bind_eq_some_iff.mp H
  obtain ⟨t977, A50, H⟩ := H
  try dsimp only at H
  have A5 := Aside0.mk A50
  clear A50
  by_cases c6 : t977 = true
  ·subst c6
   rw [if_pos rfl] at H
   replace H := Option.bind_eq_some_iff.mp H
   obtain ⟨⟨t978, t979⟩, A70, H⟩ := H
   try dsimp only at H
   have A7 := Aside0.mk A70
   clear A70
   simp only [Option.some.injEq, Prod.mk.injEq] at H
   obtain ⟨rfl, rfl⟩ := H
   go_enter Try.func143, Try.ntmps143
   go_wp2_with (first | (go_at_call 123; (with_reducible refine (impl_within.calls a1 0 a2 true _ A5.out).mono ?_); rintro e w' ⟨rfl, ⟨nd, rfl⟩⟩) | ((with_reducible refine gate_callee (f := 224) rfl ?_); refine goesL_ (some 19) rfl rfl Try.func224 (by kernel_rfl) rfl #[.string a0, .int .i64 a1] rfl ZA ?_; (with_reducible refine (impl_heights.calls k a0 a1 t978 t979 _ A7.out).mono ?_); rintro e w8 ⟨v980, rfl, ho0, hb⟩; refine ⟨_, rfl, ?_⟩; have n0_ := Aside0.mk (Kd.R_lower ho0 (below_size ZB)); have n1_ := Aside0.mk (below_step ZB hb); clear HB; have HO981 := n0_; have HB := n1_; clear n0_ n1_; (try clear hb); (try clear ho0)))
   go_ret2
   exact ⟨_, ZqR, by refine ZQ ?_; exact HO981.out, ZB⟩
  ·replace c6 := Bool.eq_false_iff.mpr c6
   subst c6
   rw [if_neg (show ¬ (false = true) by decide)] at H
   simp only [Option.some.injEq, Prod.mk.injEq] at H
   obtain ⟨rfl, rfl⟩ := H
   go_enter Try.func143, Try.ntmps143
   go_wp2_with (first | (go_at_call 123; (with_reducible refine (impl_within.calls a1 0 a2 false _ A5.out).mono ?_); rintro e w' ⟨rfl, ⟨nd, rfl⟩⟩))
   go_ret2
   exact ⟨_, ZqR, by first | exact Kd.R_nil _ _ _ _ _ | exact Kd.N_nil _ _ _ _ _ | exact Kd.V_nil _ _ _ _ _ | exact Kd.Q_nil _ _ _ _ _ | exact Kd.S_nil _ _ _ _ _, ZB⟩

/-! ### impl_HeightsOf: function 30 -/
def impl_HeightsOf.f (k : Nat) (a0 : ByteArray) (a1 : Int) : Option (List Int × Int) := (impl_pathHeights.f k a0 a1 24).bind fun bt982 => (if bt982.2 = true then (some (bt982.1, 0)) else (some (([] : List Int), 2)))
theorem impl_HeightsOf.mono : ∀ a0 a1 k, LeO (impl_HeightsOf.f k a0 a1) (impl_HeightsOf.f (k + 1) a0 a1) := by
 intro a0 a1 k
 unfold impl_HeightsOf.f
 repeat' first
   | (with_reducible exact impl_pathHeights.mono _ _ _ _)
   | (with_reducible exact LeO.refl _)
   | (with_reducible exact LeO.none _)
   | (with_reducible refine LeO.ite ?_ ?_)
   | (with_reducible refine LeO.bind ?_ (fun _ => ?_))
   | exact impl_pathHeights.mono _ _ _ _
   | exact LeO.none _
   | refine LeO.ite ?_ ?_
   | refine LeO.bind ?_ (fun _ => ?_)
set_option maxHeartbeats 8000000 in
set_option maxRecDepth 100000 in
theorem impl_HeightsOf.calls (k : Nat) (a0 : ByteArray) (a1 : Int) (r1 : List Int) (r2 : Int) (w : World) (h : impl_HeightsOf.f k a0 a1 = some (r1, r2)) :
  Calls Try.prog 30 #[.string a0, .int .i64 a1] w fun e w' => ∃ v0_ : Value, e = .returned (.tuple #[v0_, .int .i64 r2]) ∧ Kd.R (Kd.int .i64) 2 w' w.heap.size (fun _ => True) v0_ r1 ∧ Below w.heap.size w w' := by
 have HB := Aside0.mk (Below.refl w.heap.size w)
 have H : ((impl_pathHeights.f k a0 a1 24).bind fun bt982 => (if bt982.2 = true then (some (bt982.1, 0)) else (some (([] : List Int), 2)))) = some (r1, r2) := h
 clear h
 replace H := Option.bind_eq_some_iff.mp H
 obtain ⟨⟨t982, t983⟩, A30, H⟩ := H
 try dsimp only at H
 have A3 := Aside0.mk A30
 clear A30
 by_cases c4 : t983 = true
 ·subst c4
  rw [if_pos rfl] at H
  simp only [Option.some.injEq, Prod.mk.injEq] at H
  obtain ⟨rfl, rfl⟩ := H
  go_enter Try.func30, Try.ntmps30
  go_wp2_with (first | ((with_reducible refine gate_callee (f := 143) rfl ?_); refine goesL_ (some 11) rfl rfl Try.func143 (by kernel_rfl) rfl #[.string a0, .int .i64 a1, .int .i64 24] rfl ZA ?_; (with_reducible refine (impl_pathHeights.calls k a0 a1 24 t982 true _ A3.out).mono ?_); rintro e w5 ⟨v984, rfl, ho0, hb⟩; refine ⟨_, rfl, ?_⟩; have n0_ := Aside0.mk (Kd.R_lower ho0 (below_size ZB)); have n1_ := Aside0.mk (below_step ZB hb); clear HB; have HO985 := n0_; have HB := n1_; clear n0_ n1_; (try clear hb); (try clear ho0)))
  go_ret2
  exact ⟨_, ZqR, by refine ZQ ?_; exact HO985.out, ZB⟩
 ·replace c4 := Bool.eq_false_iff.mpr c4
  subst c4
  rw [if_neg (show ¬ (false = true) by decide)] at H
  simp only [Option.some.injEq, Prod.mk.injEq] at H
  obtain ⟨rfl, rfl⟩ := H
  go_enter Try.func30, Try.ntmps30
  go_wp2_with (first | ((with_reducible refine gate_callee (f := 143) rfl ?_); refine goesL_ (some 11) rfl rfl Try.func143 (by kernel_rfl) rfl #[.string a0, .int .i64 a1, .int .i64 24] rfl ZA ?_; (with_reducible refine (impl_pathHeights.calls k a0 a1 24 t982 false _ A3.out).mono ?_); rintro e w6 ⟨v984, rfl, ho0, hb⟩; refine ⟨_, rfl, ?_⟩; have n0_ := Aside0.mk (Kd.R_lower ho0 (below_size ZB)); have n1_ := Aside0.mk (below_step ZB hb); clear HB; have HO985 := n0_; have HB := n1_; clear n0_ n1_; (try clear hb); (try clear ho0)))
  go_ret2
  exact ⟨_, ZqR, by first | exact Kd.R_nil _ _ _ _ _ | exact Kd.N_nil _ _ _ _ _ | exact Kd.V_nil _ _ _ _ _ | exact Kd.Q_nil _ _ _ _ _ | exact Kd.S_nil _ _ _ _ _, ZB⟩

/-! ### spec_l09NoPath: function 225 -/
def spec_l09NoPath.f (s0_0 : List Int) (s0_1 : Int) (s0_2 : Int) : Option (ByteArray × Int × Int) := (some (([(⟨#[117]⟩ : ByteArray), (⟨#[88]⟩ : ByteArray), (⟨#[68, 68, 68, 68, 68, 68, 68, 68, 68, 68, 68, 68, 68, 68, 68, 68, 68, 68, 68, 68, 68, 68, 68, 68, 68, 68, 68, 68, 68, 68, 68, 68, 68, 68, 68, 68, 68, 68, 68, 68, 68, 68, 68, 68, 68, 68, 68, 68, 68, 68, 68]⟩ : ByteArray), (⟨#[32]⟩ : ByteArray)] : List ByteArray) : List ByteArray)).bind fun y986 => ((spec_l01Next.f s0_0 s0_1 s0_2 4).bind fun bt989 => (if 0 ≤ bt989.1 then (if bt989.1 < (y986.length : Int) then (some (rdOf ByteArray.empty y986 bt989.1, bt989.2.1, bt989.2.2)) else (none)) else (none)))
set_option maxHeartbeats 8000000 in
set_option maxRecDepth 100000 in
theorem spec_l09NoPath.calls (g : Nat) (s0_0 : List Int) (s0_1 : Int) (s0_2 : Int) (r1 : ByteArray) (r2 : Int) (r3 : Int) (w0 w : World) (hI : IsS176 w0 w g s0_0 s0_1 s0_2) (hB : Below w0.heap.size w0 w) (h : spec_l09NoPath.f s0_0 s0_1 s0_2 = some (r1, r2, r3)) :
  Calls Try.prog 225 #[.pointer (some ⟨g, 0, none⟩)] w fun e w' => e = .returned (.string r1) ∧ IsS176 w0 w' g s0_0 r2 r3 ∧ Below w0.heap.size w0 w' ∧ KeepBut w w' g none := by
 have HI0 := Aside0.mk hI
 have HK := Aside0.mk (KeepBut.refl w g none)
 have HL := Aside0.mk hB.size
 clear hI
 have HW0 := Aside0.mk hB.size
 have HB := Aside0.mk hB
 clear hB
 have H : ((some (([(⟨#[117]⟩ : ByteArray), (⟨#[88]⟩ : ByteArray), (⟨#[68, 68, 68, 68, 68, 68, 68, 68, 68, 68, 68, 68, 68, 68, 68, 68, 68, 68, 68, 68, 68, 68, 68, 68, 68, 68, 68, 68, 68, 68, 68, 68, 68, 68, 68, 68, 68, 68, 68, 68, 68, 68, 68, 68, 68, 68, 68, 68, 68, 68, 68]⟩ : ByteArray), (⟨#[32]⟩ : ByteArray)] : List ByteArray) : List ByteArray)).bind fun y986 => ((spec_l01Next.f s0_0 s0_1 s0_2 4).bind fun bt989 => (if 0 ≤ bt989.1 then (if bt989.1 < (y986.length : Int) then (some (rdOf ByteArray.empty y986 bt989.1, bt989.2.1, bt989.2.2)) else (none)) else (none)))) = some (r1, r2, r3) := h
 clear h
 obtain ⟨y986, hy986⟩ : ∃ y_ : List ByteArray, y_ = (([(⟨#[117]⟩ : ByteArray), (⟨#[88]⟩ : ByteArray), (⟨#[68, 68, 68, 68, 68, 68, 68, 68, 68, 68, 68, 68, 68, 68, 68, 68, 68, 68, 68, 68, 68, 68, 68, 68, 68, 68, 68, 68, 68, 68, 68, 68, 68, 68, 68, 68, 68, 68, 68, 68, 68, 68, 68, 68, 68, 68, 68, 68, 68, 68, 68]⟩ : ByteArray), (⟨#[32]⟩ : ByteArray)] : List ByteArray)) := ⟨_, rfl⟩
 replace H : ((spec_l01Next.f s0_0 s0_1 s0_2 4).bind fun bt989 => (if 0 ≤ bt989.1 then (if bt989.1 < (y986.length : Int) then (some (rdOf ByteArray.empty y986 bt989.1, bt989.2.1, bt989.2.2)) else (none)) else (none))) = some (r1, r2, r3) := by have hq_ := hy986; exact ZqH
 have Ny986 := Aside0.mk hy986
 clear hy986
 replace H := Option.bind_eq_some_iff.mp H
 obtain ⟨⟨t989, t990, t991⟩, A20, H⟩ := H
 try dsimp only at H
 have A2 := Aside0.mk A20
 clear A20
 by_cases c3 : 0 ≤ t989
 ·rw [if_pos c3] at H
  have c3b0 : decide (0 ≤ t989) = true := decide_eq_true c3
  clear c3
  by_cases c4 : t989 < (y986.length : Int)
  ·rw [if_pos c4] at H
   have c4b0 : decide (t989 < (y986.length : Int)) = true := decide_eq_true c4
   clear c4
   simp only [Option.some.injEq, Prod.mk.injEq] at H
   obtain ⟨rfl, rfl, rfl⟩ := H
   go_enter Try.func225, Try.ntmps225
   go_wp2_with (first | ((with_reducible refine gate_dst (N := 4) rfl ?_); refine Kd.R_lit Kd.string _ 9 ?hg (N := 4) ?hd (xs := ([(⟨#[117]⟩ : ByteArray), (⟨#[88]⟩ : ByteArray), (⟨#[68, 68, 68, 68, 68, 68, 68, 68, 68, 68, 68, 68, 68, 68, 68, 68, 68, 68, 68, 68, 68, 68, 68, 68, 68, 68, 68, 68, 68, 68, 68, 68, 68, 68, 68, 68, 68, 68, 68, 68, 68, 68, 68, 68, 68, 68, 68, 68, 68, 68, 68]⟩ : ByteArray), (⟨#[32]⟩ : ByteArray)] : List ByteArray)) (inner := [.string (⟨#[117]⟩ : ByteArray), .string (⟨#[88]⟩ : ByteArray), .string (⟨#[68, 68, 68, 68, 68, 68, 68, 68, 68, 68, 68, 68, 68, 68, 68, 68, 68, 68, 68, 68, 68, 68, 68, 68, 68, 68, 68, 68, 68, 68, 68, 68, 68, 68, 68, 68, 68, 68, 68, 68, 68, 68, 68, 68, 68, 68, 68, 68, 68, 68, 68]⟩ : ByteArray), .string (⟨#[32]⟩ : ByteArray)]) (ok := fun _ => True) (okp := fun _ => True) ?hr ?hp (fun _ hk => hk) trivial (Below.refl _ _) (Nat.le_refl _) (by simp) ?_; (case hd => rfl); (case hg => rfl); (case hr => exact ZqT); (case hp => exact (Reps.one (show Kd.M Kd.string _ _ _ (⟨#[117]⟩ : ByteArray) [.string (⟨#[117]⟩ : ByteArray)] from rfl) (Reps.one (show Kd.M Kd.string _ _ _ (⟨#[88]⟩ : ByteArray) [.string (⟨#[88]⟩ : ByteArray)] from rfl) (Reps.one (show Kd.M Kd.string _ _ _ (⟨#[68, 68, 68, 68, 68, 68, 68, 68, 68, 68, 68, 68, 68, 68, 68, 68, 68, 68, 68, 68, 68, 68, 68, 68, 68, 68, 68, 68, 68, 68, 68, 68, 68, 68, 68, 68, 68, 68, 68, 68, 68, 68, 68, 68, 68, 68, 68, 68, 68, 68, 68]⟩ : ByteArray) [.string (⟨#[68, 68, 68, 68, 68, 68, 68, 68, 68, 68, 68, 68, 68, 68, 68, 68, 68, 68, 68, 68, 68, 68, 68, 68, 68, 68, 68, 68, 68, 68, 68, 68, 68, 68, 68, 68, 68, 68, 68, 68, 68, 68, 68, 68, 68, 68, 68, 68, 68, 68, 68]⟩ : ByteArray)] from rfl) (Reps.one (show Kd.M Kd.string _ _ _ (⟨#[32]⟩ : ByteArray) [.string (⟨#[32]⟩ : ByteArray)] from rfl) (Reps.none _ _)))))); intro v987 w5 ho6 hb hg_ hnew_; clear hg_ hnew_; (first | rw [← Ny986.out] at ho6 | (simp only [Int.reduceToNat] at ho6; rw [← Ny986.out] at ho6)); have n0_ := Aside0.mk (Kd.R_lower ho6 (keep_size (w := w) (g := g) (row := none) (by exact Zq5))); have n1_ := Aside0.mk (IsS176.below (by exact Zq3) hb); have n2_ := Aside0.mk (KeepBut.trans (by exact Zq5) (KeepBut.of_below hb g none) (.inl rfl)); have n3_ := Aside0.mk (below_step (by exact Zq4) hb); clear HI0 HK HB; have HO988 := n0_; have HI0 := n1_; have HK := n2_; have HB := n3_; clear n0_ n1_ n2_ n3_; clear hb ho6) | ((with_reducible refine gate_callee (f := 122) rfl ?_); refine goesL_ (some 7) rfl rfl Try.func122 (by kernel_rfl) rfl #[.pointer (some ⟨g, 0, none⟩), .int .i64 4] rfl ZA ?_; (with_reducible refine (spec_l01Next.calls g s0_0 s0_1 s0_2 4 t989 t990 t991 w0 _ ?side1 ?side2 A2.out).mono ?_); (case side1 => exact Zq3); (case side2 => exact Zq4); rintro e w7 ⟨rfl, hi, hb, hk⟩; refine ⟨_, rfl, ?_⟩; have n0_ := Aside0.mk (Kd.R_mono (Kd.R_keep (IsS176.apart (show IsS176 w0 _ g s0_0 s0_1 s0_2 from by exact Zq3) (ZR HO988) (by decide)) hk (fun _ h => h.2)) (fun _ h => h.1)); have n1_ := Aside0.mk (KeepBut.trans (by exact Zq5) hk (.inl rfl)); have n2_ := Aside0.mk (hb); have n3_ := Aside0.mk (hi); clear HO988 HK HB HI0; have HO988 := n0_; have HK := n1_; have HB := n2_; have HI0 := n3_; clear n0_ n1_ n2_ n3_; (try clear hb); (try clear hk); (try clear hi); obtain ⟨Ao8, co8, eo8⟩ := Kd.R_slice HO988.out; subst eo8; have p992 : 0 ≤ (t989 : Int) := of_decide_eq_true (by first | (with_reducible assumption) | assumption); have q992 : t989 < (y986.length : Int) := of_decide_eq_true (by first | (with_reducible assumption) | assumption); obtain ⟨ad992, e992, hx992_0⟩ := Kd.at_string (Kd.R_reads' HO988.out).2.2 t989 p992 q992; cases e992; replace p992 := eq_true p992; replace q992 := eq_true q992))
   go_ret
   exact ⟨ZqR, by exact Zq3, by exact Zq4, by exact Zq5⟩
  ·rw [if_neg c4] at H
   exact absurd H (by simp)
 ·rw [if_neg c3] at H
  exact absurd H (by simp)

/-! ### spec_l09DrawPath: function 145 -/
mutual
def spec_l09DrawPath.l0 : Nat → Int → Int → ByteArray → Int → List Int → Int → Int → Option (ByteArray × Int × Int)
 | 0, _, _, _, _, _, _, _ => none
 | k + 1, x1, x3, x9, x10, x1000, x1001, x1002 => if x10 > 0 then ((some (([(⟨#[85]⟩ : ByteArray), (⟨#[76]⟩ : ByteArray), (⟨#[68]⟩ : ByteArray)] : List ByteArray) : List ByteArray)).bind fun y996 => ((spec_l01Next.f x1000 x1001 x1002 3).bind fun bt999 => (if 0 ≤ bt999.1 then (if bt999.1 < (y996.length : Int) then (if (rdOf ByteArray.empty y996 bt999.1).toList = ([85] : List UInt8) then (spec_l09DrawPath.j1 k x1 x3 x9 x10 (rdOf ByteArray.empty y996 bt999.1) (decide ((wrap64 (x1 + 1)) < x3)) x1000 bt999.2.1 bt999.2.2) else (spec_l09DrawPath.j1 k x1 x3 x9 x10 (rdOf ByteArray.empty y996 bt999.1) false x1000 bt999.2.1 bt999.2.2)) else (none)) else (none)))) else ((spec_l01Next.f x1000 x1001 x1002 30).bind fun bt1006 => (if bt1006.1 = 0 then ((spec_l09NoPath.f x1000 bt1006.2.1 bt1006.2.2).bind fun bt1009 => (if x9.size + bt1009.1.size ≤ 9223372036854775807 then (some (x9 ++ bt1009.1, bt1009.2.1, bt1009.2.2)) else (none))) else (some (x9, bt1006.2.1, bt1006.2.2))))
def spec_l09DrawPath.j1 : Nat → Int → Int → ByteArray → Int → ByteArray → Bool → List Int → Int → Int → Option (ByteArray × Int × Int)
 | 0, _, _, _, _, _, _, _, _, _ => none
 | k + 1, x1, x3, x9, x10, x11, x25, x1000, x1001, x1002 => if x25 = true then (if x9.size + x11.size ≤ 9223372036854775807 then (spec_l09DrawPath.l0 k (wrap64 (x1 + 1)) x3 (x9 ++ x11) (wrap64 (x10 - 1)) x1000 x1001 x1002) else (none)) else (if x11.toList = ([68] : List UInt8) then (spec_l09DrawPath.j2 k x1 x3 x9 x10 x11 (decide (x1 > 0)) x1000 x1001 x1002) else (spec_l09DrawPath.j2 k x1 x3 x9 x10 x11 false x1000 x1001 x1002))
def spec_l09DrawPath.j2 : Nat → Int → Int → ByteArray → Int → ByteArray → Bool → List Int → Int → Int → Option (ByteArray × Int × Int)
 | 0, _, _, _, _, _, _, _, _, _ => none
 | k + 1, x1, x3, x9, x10, x11, x36, x1000, x1001, x1002 => if x36 = true then (if x9.size + x11.size ≤ 9223372036854775807 then (spec_l09DrawPath.l0 k (wrap64 (x1 - 1)) x3 (x9 ++ x11) (wrap64 (x10 - 1)) x1000 x1001 x1002) else (none)) else (if x11.toList = ([76] : List UInt8) then (if x9.size + x11.size ≤ 9223372036854775807 then (spec_l09DrawPath.l0 k x1 x3 (x9 ++ x11) (wrap64 (x10 - 1)) x1000 x1001 x1002) else (none)) else ((spec_l01Next.f x1000 x1001 x1002 30).bind fun bt1003 => (if bt1003.1 > 0 then (if x9.size + 1 ≤ 9223372036854775807 then (spec_l09DrawPath.l0 k x1 x3 (x9 ++ (⟨#[76]⟩ : ByteArray)) (wrap64 (x10 - 1)) x1000 bt1003.2.1 bt1003.2.2) else (none)) else (if x9.size + x11.size ≤ 9223372036854775807 then (spec_l09DrawPath.l0 k x1 x3 (x9 ++ x11) (wrap64 (x10 - 1)) x1000 bt1003.2.1 bt1003.2.2) else (none)))))
end
def spec_l09DrawPath.f (k : Nat) (s0_0 : List Int) (s0_1 : Int) (s0_2 : Int) (a1 : Int) (a2 : Int) (a3 : Int) : Option (ByteArray × Int × Int) := (spec_l01Next.f s0_0 s0_1 s0_2 (wrap64 (a2 + 1))).bind fun bt993 => (spec_l09DrawPath.l0 k a1 a3 (⟨#[]⟩ : ByteArray) bt993.1 s0_0 bt993.2.1 bt993.2.2)
theorem spec_l09DrawPath.mono_l : ∀ k, (∀ y0 y1 y2 y3 y4 y5 y6, LeO (spec_l09DrawPath.l0 k y0 y1 y2 y3 y4 y5 y6) (spec_l09DrawPath.l0 (k + 1) y0 y1 y2 y3 y4 y5 y6)) ∧ (∀ y0 y1 y2 y3 y4 y5 y6 y7 y8, LeO (spec_l09DrawPath.j1 k y0 y1 y2 y3 y4 y5 y6 y7 y8) (spec_l09DrawPath.j1 (k + 1) y0 y1 y2 y3 y4 y5 y6 y7 y8)) ∧ (∀ y0 y1 y2 y3 y4 y5 y6 y7 y8, LeO (spec_l09DrawPath.j2 k y0 y1 y2 y3 y4 y5 y6 y7 y8) (spec_l09DrawPath.j2 (k + 1) y0 y1 y2 y3 y4 y5 y6 y7 y8))
 | 0 => ⟨fun _ _ _ _ _ _ _ r h => by simp [spec_l09DrawPath.l0] at h, fun _ _ _ _ _ _ _ _ _ r h => by simp [spec_l09DrawPath.j1] at h, fun _ _ _ _ _ _ _ _ _ r h => by simp [spec_l09DrawPath.j2] at h⟩
 | k + 1 => by
  obtain ⟨ih0, ih1, ih2⟩ := spec_l09DrawPath.mono_l k
  refine ⟨?_, ?_, ?_⟩
  ·intro y0 y1 y2 y3 y4 y5 y6
   unfold spec_l09DrawPath.l0
   repeat' first
   | (with_reducible exact ih0 _ _ _ _ _ _ _)
   | (with_reducible exact ih1 _ _ _ _ _ _ _ _ _)
   | (with_reducible exact ih2 _ _ _ _ _ _ _ _ _)
   | (with_reducible exact LeO.refl _)
   | (with_reducible exact LeO.none _)
   | (with_reducible refine LeO.ite ?_ ?_)
   | (with_reducible refine LeO.bind ?_ (fun _ => ?_))
   | exact ih0 _ _ _ _ _ _ _
   | exact ih1 _ _ _ _ _ _ _ _ _
   | exact ih2 _ _ _ _ _ _ _ _ _
   | exact LeO.none _
   | refine LeO.ite ?_ ?_
   | refine LeO.bind ?_ (fun _ => ?_)
  ·intro y0 y1 y2 y3 y4 y5 y6 y7 y8
   unfold spec_l09DrawPath.j1
   repeat' first
   | (with_reducible exact ih0 _ _ _ _ _ _ _)
   | (with_reducible exact ih1 _ _ _ _ _ _ _ _ _)
   | (with_reducible exact ih2 _ _ _ _ _ _ _ _ _)
   | (with_reducible exact LeO.refl _)
   | (with_reducible exact LeO.none _)
   | (with_reducible refine LeO.ite ?_ ?_)
   | (with_reducible refine LeO.bind ?_ (fun _ => ?_))
   | exact ih0 _ _ _ _ _ _ _
   | exact ih1 _ _ _ _ _ _ _ _ _
   | exact ih2 _ _ _ _ _ _ _ _ _
   | exact LeO.none _
   | refine LeO.ite ?_ ?_
   | refine LeO.bind ?_ (fun _ => ?_)
  ·intro y0 y1 y2 y3 y4 y5 y6 y7 y8
   unfold spec_l09DrawPath.j2
   repeat' first
   | (with_reducible exact ih0 _ _ _ _ _ _ _)
   | (with_reducible exact ih1 _ _ _ _ _ _ _ _ _)
   | (with_reducible exact ih2 _ _ _ _ _ _ _ _ _)
   | (with_reducible exact LeO.refl _)
   | (with_reducible exact LeO.none _)
   | (with_reducible refine LeO.ite ?_ ?_)
   | (with_reducible refine LeO.bind ?_ (fun _ => ?_))
   | exact ih0 _ _ _ _ _ _ _
   | exact ih1 _ _ _ _ _ _ _ _ _
   | exact ih2 _ _ _ _ _ _ _ _ _
   | exact LeO.none _
   | refine LeO.ite ?_ ?_
   | refine LeO.bind ?_ (fun _ => ?_)
theorem spec_l09DrawPath.mono : ∀ a0 a1 a2 a3 a4 a5 k, LeO (spec_l09DrawPath.f k a0 a1 a2 a3 a4 a5) (spec_l09DrawPath.f (k + 1) a0 a1 a2 a3 a4 a5) := by
 intro a0 a1 a2 a3 a4 a5 k
 obtain ⟨ih0, ih1, ih2⟩ := spec_l09DrawPath.mono_l k
 unfold spec_l09DrawPath.f
 repeat' first
   | (with_reducible exact ih0 _ _ _ _ _ _ _)
   | (with_reducible exact ih1 _ _ _ _ _ _ _ _ _)
   | (with_reducible exact ih2 _ _ _ _ _ _ _ _ _)
   | (with_reducible exact LeO.refl _)
   | (with_reducible exact LeO.none _)
   | (with_reducible refine LeO.ite ?_ ?_)
   | (with_reducible refine LeO.bind ?_ (fun _ => ?_))
   | exact ih0 _ _ _ _ _ _ _
   | exact ih1 _ _ _ _ _ _ _ _ _
   | exact ih2 _ _ _ _ _ _ _ _ _
   | exact LeO.none _
   | refine LeO.ite ?_ ?_
   | refine LeO.bind ?_ (fun _ => ?_)
set_option maxHeartbeats 8000000 in
set_option maxRecDepth 100000 in
theorem spec_l09DrawPath.calls (k : Nat) (g : Nat) (s0_0 : List Int) (s0_1 : Int) (s0_2 : Int) (a1 : Int) (a2 : Int) (a3 : Int) (r1 : ByteArray) (r2 : Int) (r3 : Int) (w0 w : World) (hI : IsS176 w0 w g s0_0 s0_1 s0_2) (hB : Below w0.heap.size w0 w) (h : spec_l09DrawPath.f k s0_0 s0_1 s0_2 a1 a2 a3 = some (r1, r2, r3)) :
  Calls Try.prog 145 #[.pointer (some ⟨g, 0, none⟩), .int .i64 a1, .int .i64 a2, .int .i64 a3] w fun e w' => e = .returned (.string r1) ∧ IsS176 w0 w' g s0_0 r2 r3 ∧ Below w0.heap.size w0 w' ∧ KeepBut w w' g none := by
 have HI0 := Aside0.mk hI
 have HK := Aside0.mk (KeepBut.refl w g none)
 have HL := Aside0.mk hB.size
 clear hI
 have HW0 := Aside0.mk hB.size
 have HB := Aside0.mk hB
 clear hB
 have H : ((spec_l01Next.f s0_0 s0_1 s0_2 (wrap64 (a2 + 1))).bind fun bt993 => (spec_l09DrawPath.l0 k a1 a3 (⟨#[]⟩ : ByteArray) bt993.1 s0_0 bt993.2.1 bt993.2.2)) = some (r1, r2, r3) := h
 clear h
 replace H := Option.bind_eq_some_iff.mp H
 obtain ⟨⟨t993, t994, t995⟩, A50, H⟩ := H
 try dsimp only at H
 have A5 := Aside0.mk A50
 clear A50
 have H' := Aside0.mk H
 clear H
 go_enter Try.func145, Try.ntmps145
 go_wp2_with (first | ((with_reducible refine gate_callee (f := 122) rfl ?_); refine goesL_ (some 15) rfl rfl Try.func122 (by kernel_rfl) rfl #[.pointer (some ⟨g, 0, none⟩), .int .i64 (wrap64 (a2 + 1))] rfl ZA ?_; (with_reducible refine (spec_l01Next.calls g s0_0 s0_1 s0_2 (wrap64 (a2 + 1)) t993 t994 t995 w0 _ ?side1 ?side2 A5.out).mono ?_); (case side1 => exact Zq3); (case side2 => exact Zq4); rintro e w6 ⟨rfl, hi, hb, hk⟩; refine ⟨_, rfl, ?_⟩; have n0_ := Aside0.mk (KeepBut.trans (by exact Zq5) hk (.inl rfl)); have n1_ := Aside0.mk (hb); have n2_ := Aside0.mk (hi); clear HK HB HI0; have HK := n0_; have HB := n1_; have HI0 := n2_; clear n0_ n1_ n2_; (try clear hb); (try clear hk); (try clear hi)))
 go_loopg [1, 9, 10] k (fun kq v1 v9 v10 w' => ∃ (x1_1 : Int) (x9_1 : ByteArray) (x10_1 : Int) (x1001_1 : Int) (x1002_1 : Int), v1 = .int .i64 x1_1 ∧ v9 = .string x9_1 ∧ v10 = .int .i64 x10_1 ∧ Aside0 (spec_l09DrawPath.l0 kq x1_1 a3 x9_1 x10_1 s0_0 x1001_1 x1002_1 = some (r1, r2, r3)) ∧ Aside0 (kq ≤ k) ∧ Aside0 (IsS176 w0 w' g s0_0 x1001_1 x1002_1) ∧ Aside0 (KeepBut w w' g none) ∧ Aside0 (Below w0.heap.size w0 w'))
 case atStart => exact ⟨(a1), ((⟨#[]⟩ : ByteArray)), (t993), (t994), (t995), (ZqS), (ZqS), (ZqS), H', ⟨Nat.le_refl _⟩, ⟨by exact Zq3⟩, ⟨by exact Zq5⟩, ⟨by exact Zq4⟩⟩
 case round =>
  clear H'
  try clear c1
  try clear p2
  try clear p6
  obtain ⟨x1_1, x9_1, x10_1, x1001_1, x1002_1, rfl, rfl, rfl, HA, HK1, HI0, HK, HB⟩ := hrel
  cases gk with
  | zero => exact absurd HA.out (by simp [spec_l09DrawPath.l0])
  | succ k1 =>
   have H := HA.out
   clear HA
   simp only [spec_l09DrawPath.l0] at H
   by_cases c7 : x10_1 > 0
   ·rw [if_pos c7] at H
    have c7b0 : decide (0 < x10_1) = true := decide_eq_true c7
    clear c7
    obtain ⟨y996, hy996⟩ : ∃ y_ : List ByteArray, y_ = (([(⟨#[85]⟩ : ByteArray), (⟨#[76]⟩ : ByteArray), (⟨#[68]⟩ : ByteArray)] : List ByteArray)) := ⟨_, rfl⟩
    replace H : ((spec_l01Next.f s0_0 x1001_1 x1002_1 3).bind fun bt999 => (if 0 ≤ bt999.1 then (if bt999.1 < (y996.length : Int) then (if (rdOf ByteArray.empty y996 bt999.1).toList = ([85] : List UInt8) then (spec_l09DrawPath.j1 k1 x1_1 a3 x9_1 x10_1 (rdOf ByteArray.empty y996 bt999.1) (decide ((wrap64 (x1_1 + 1)) < a3)) s0_0 bt999.2.1 bt999.2.2) else (spec_l09DrawPath.j1 k1 x1_1 a3 x9_1 x10_1 (rdOf ByteArray.empty y996 bt999.1) false s0_0 bt999.2.1 bt999.2.2)) else (none)) else (none))) = some (r1, r2, r3) := by have hq_ := hy996; exact ZqH
    have Ny996 := Aside0.mk hy996
    clear hy996
    replace H := Option.bind_eq_some_iff.mp H
    obtain ⟨⟨t999, t1000, t1001⟩, A80, H⟩ := H
    try dsimp only at H
    have A8 := Aside0.mk A80
    clear A80
    by_cases c9 : 0 ≤ t999
    ·rw [if_pos c9] at H
     have c9b0 : decide (0 ≤ t999) = true := decide_eq_true c9
     clear c9
     by_cases c10 : t999 < (y996.length : Int)
     ·rw [if_pos c10] at H
      have c10b0 : decide (t999 < (y996.length : Int)) = true := decide_eq_true c10
      clear c10
      have HC11 := Aside0.mk H
      clear H
      go_upto_region 6 with (first | ((with_reducible refine gate_dst (N := 20) rfl ?_); refine Kd.R_lit Kd.string _ 9 ?hg (N := 20) ?hd (xs := ([(⟨#[85]⟩ : ByteArray), (⟨#[76]⟩ : ByteArray), (⟨#[68]⟩ : ByteArray)] : List ByteArray)) (inner := [.string (⟨#[85]⟩ : ByteArray), .string (⟨#[76]⟩ : ByteArray), .string (⟨#[68]⟩ : ByteArray)]) (ok := fun _ => True) (okp := fun _ => True) ?hr ?hp (fun _ hk => hk) trivial (Below.refl _ _) (Nat.le_refl _) (by simp) ?_; (case hd => rfl); (case hg => rfl); (case hr => exact ZqT); (case hp => exact (Reps.one (show Kd.M Kd.string _ _ _ (⟨#[85]⟩ : ByteArray) [.string (⟨#[85]⟩ : ByteArray)] from rfl) (Reps.one (show Kd.M Kd.string _ _ _ (⟨#[76]⟩ : ByteArray) [.string (⟨#[76]⟩ : ByteArray)] from rfl) (Reps.one (show Kd.M Kd.string _ _ _ (⟨#[68]⟩ : ByteArray) [.string (⟨#[68]⟩ : ByteArray)] from rfl) (Reps.none _ _))))); intro v997 w12 ho13 hb hg_ hnew_; clear hg_ hnew_; (first | rw [← Ny996.out] at ho13 | (simp only [Int.reduceToNat] at ho13; rw [← Ny996.out] at ho13)); have n0_ := Aside0.mk (Kd.R_lower ho13 (keep_size (w := w) (g := g) (row := none) (by exact Zq5))); have n1_ := Aside0.mk (IsS176.below (by exact Zq3) hb); have n2_ := Aside0.mk (KeepBut.trans (by exact Zq5) (KeepBut.of_below hb g none) (.inl rfl)); have n3_ := Aside0.mk (below_step (by exact Zq4) hb); clear HI0 HK HB; have HO998 := n0_; have HI0 := n1_; have HK := n2_; have HB := n3_; clear n0_ n1_ n2_ n3_; clear hb ho13) | ((with_reducible refine gate_callee (f := 122) rfl ?_); refine goesL_ (some 22) rfl rfl Try.func122 (by kernel_rfl) rfl #[.pointer (some ⟨g, 0, none⟩), .int .i64 3] rfl ZA ?_; (with_reducible refine (spec_l01Next.calls g s0_0 x1001_1 x1002_1 3 t999 t1000 t1001 w0 _ ?side1 ?side2 A8.out).mono ?_); (case side1 => exact Zq3); (case side2 => exact Zq4); rintro e w14 ⟨rfl, hi, hb, hk⟩; refine ⟨_, rfl, ?_⟩; have n0_ := Aside0.mk (Kd.R_mono (Kd.R_keep (IsS176.apart (show IsS176 w0 _ g s0_0 x1001_1 x1002_1 from by exact Zq3) (ZR HO998) (by decide)) hk (fun _ h => h.2)) (fun _ h => h.1)); have n1_ := Aside0.mk (KeepBut.trans (by exact Zq5) hk (.inl rfl)); have n2_ := Aside0.mk (hb); have n3_ := Aside0.mk (hi); clear HO998 HK HB HI0; have HO998 := n0_; have HK := n1_; have HB := n2_; have HI0 := n3_; clear n0_ n1_ n2_ n3_; (try clear hb); (try clear hk); (try clear hi); obtain ⟨Ao15, co15, eo15⟩ := Kd.R_slice HO998.out; subst eo15; have p1002 : 0 ≤ (t999 : Int) := of_decide_eq_true (by first | (with_reducible assumption) | assumption); have q1002 : t999 < (y996.length : Int) := of_decide_eq_true (by first | (with_reducible assumption) | assumption); obtain ⟨ad1002, e1002, hx1002_0⟩ := Kd.at_string (Kd.R_reads' HO998.out).2.2 t999 p1002 q1002; cases e1002; replace p1002 := eq_true p1002; replace q1002 := eq_true q1002))
      (try simp only [Act.put, List.setIfInBounds_toArray, List.set_cons_zero, List.set_cons_succ])
      go_cut [25] (fun v25 wc => ∃ (kq : Nat) (x25_10 : Bool), v25 = .bool x25_10 ∧ Aside0 (spec_l09DrawPath.j1 kq x1_1 a3 x9_1 x10_1 (rdOf ByteArray.empty y996 t999) x25_10 s0_0 t1000 t1001 = some (r1, r2, r3)) ∧ Aside0 (kq ≤ k1) ∧ Aside0 (IsS176 w0 wc g s0_0 t1000 t1001) ∧ Aside0 (KeepBut w wc g none) ∧ Aside0 (Below w0.heap.size w0 wc))
      case first =>
       have H := HC11.out
       clear HC11
       by_cases c16 : (rdOf ByteArray.empty y996 t999).toList = ([85] : List UInt8)
       ·rw [if_pos c16] at H
        have c16b0 : ((rdOf ByteArray.empty y996 t999).toList == ([85] : List UInt8)) = true := beq_iff_eq.mpr c16
        have c16b1 : ((rdOf ByteArray.empty y996 t999).toList != ([85] : List UInt8)) = false := bne_eq_false_iff_eq.mpr c16
        clear c16
        (first | rw [c16b0] | (simp only [i64_w, i32_w]; rw [c16b0]) | skip)
        have H' := Aside0.mk H
        clear H
        go_wp2
        go_meet
        case rel => exact ⟨_, (decide ((wrap64 (x1_1 + 1)) < a3)), (ZqS), H', ⟨by have := HK1.out; first | omega | exact Nat.le_refl _⟩, ⟨by exact Zq3⟩, ⟨by exact Zq5⟩, ⟨by exact Zq4⟩⟩
       ·rw [if_neg c16] at H
        have c16b0 : ((rdOf ByteArray.empty y996 t999).toList == ([85] : List UInt8)) = false := beq_eq_false_iff_ne.mpr c16
        have c16b1 : ((rdOf ByteArray.empty y996 t999).toList != ([85] : List UInt8)) = true := bne_iff_ne.mpr c16
        (first | rw [c16b0] | (simp only [i64_w, i32_w]; rw [c16b0]) | skip)
        have H' := Aside0.mk H
        clear H
        go_wp2
        go_meet
        case rel => exact ⟨_, (false), (ZqS), H', ⟨by have := HK1.out; first | omega | exact Nat.le_refl _⟩, ⟨by exact Zq3⟩, ⟨by exact Zq5⟩, ⟨by exact Zq4⟩⟩
      case rest =>
       clear HC11
       try clear c1
       try clear p1
       try clear q1
       try clear hx1
       try clear p2
       try clear p6
       try clear c7
       try clear c7b0
       try clear c9
       try clear c9b0
       try clear c10
       try clear c10b0
       try clear p10
       try clear q10
       try clear hx10
       try clear c12
       try clear c14
       try clear c16
       try clear c16b0
       try clear c16b1
       try clear hx1002_0
       try clear p1002
       try clear p2
       try clear p6
       try clear q1002
       obtain ⟨kq, x25_10, rfl, HA, HJ10, HI0, HK, HB⟩ := hcut
       cases kq with
       | zero => exact absurd HA.out (by simp [spec_l09DrawPath.j1])
       | succ kj10 =>
        have H := HA.out
        clear HA
        simp only [spec_l09DrawPath.j1] at H
        by_cases c17 : x25_10 = true
        ·subst c17
         rw [if_pos rfl] at H
         by_cases c18 : x9_1.size + (rdOf ByteArray.empty y996 t999).size ≤ 9223372036854775807
         ·rw [if_pos c18] at H
          have c18b0 := eq_true c18
          have c18b1 : decide (x9_1.size + (rdOf ByteArray.empty y996 t999).size ≤ 9223372036854775807) = true := decide_eq_true c18
          try have c18b2 : (9223372036854775807 < x9_1.size + (rdOf ByteArray.empty y996 t999).size) = False := eq_false (Nat.not_lt.2 c18)
          have H' := Aside0.mk H
          clear H
          go_wp2
          go_roundg kj10
          case measure => have := HK1.out; have := HJ10.out; omega
          case rel => exact ⟨(wrap64 (x1_1 + 1)), (x9_1 ++ (rdOf ByteArray.empty y996 t999)), (wrap64 (x10_1 - 1)), (t1000), (t1001), (ZqS), (ZqS), (ZqS), H', ⟨by have := HK1.out; have := HJ10.out; omega⟩, ⟨by exact Zq3⟩, ⟨by exact Zq5⟩, ⟨by exact Zq4⟩⟩
         ·rw [if_neg c18] at H
          exact absurd H (by simp)
        ·replace c17 := Bool.eq_false_iff.mpr c17
         subst c17
         rw [if_neg (show ¬ (false = true) by decide)] at H
         have HC19 := Aside0.mk H
         clear H
         go_upto_region 8 with (fail)
         go_cut [36] (fun v36 wc => ∃ (kq : Nat) (x36_18 : Bool), v36 = .bool x36_18 ∧ Aside0 (spec_l09DrawPath.j2 kq x1_1 a3 x9_1 x10_1 (rdOf ByteArray.empty y996 t999) x36_18 s0_0 t1000 t1001 = some (r1, r2, r3)) ∧ Aside0 (kq ≤ kj10) ∧ Aside0 (IsS176 w0 wc g s0_0 t1000 t1001) ∧ Aside0 (KeepBut w wc g none) ∧ Aside0 (Below w0.heap.size w0 wc))
         case first =>
          have H := HC19.out
          clear HC19
          by_cases c20 : (rdOf ByteArray.empty y996 t999).toList = ([68] : List UInt8)
          ·rw [if_pos c20] at H
           have c20b0 : ((rdOf ByteArray.empty y996 t999).toList == ([68] : List UInt8)) = true := beq_iff_eq.mpr c20
           have c20b1 : ((rdOf ByteArray.empty y996 t999).toList != ([68] : List UInt8)) = false := bne_eq_false_iff_eq.mpr c20
           clear c20
           (first | rw [c20b0] | (simp only [i64_w, i32_w]; rw [c20b0]) | skip)
           have H' := Aside0.mk H
           clear H
           go_wp2
           go_meet
           case rel => exact ⟨_, (decide (x1_1 > 0)), (ZqS), H', ⟨by have := HK1.out; have := HJ10.out; first | omega | exact Nat.le_refl _⟩, ⟨by exact Zq3⟩, ⟨by exact Zq5⟩, ⟨by exact Zq4⟩⟩
          ·rw [if_neg c20] at H
           have c20b0 : ((rdOf ByteArray.empty y996 t999).toList == ([68] : List UInt8)) = false := beq_eq_false_iff_ne.mpr c20
           have c20b1 : ((rdOf ByteArray.empty y996 t999).toList != ([68] : List UInt8)) = true := bne_iff_ne.mpr c20
           (first | rw [c20b0] | (simp only [i64_w, i32_w]; rw [c20b0]) | skip)
           have H' := Aside0.mk H
           clear H
           go_wp2
           go_meet
           case rel => exact ⟨_, (false), (ZqS), H', ⟨by have := HK1.out; have := HJ10.out; first | omega | exact Nat.le_refl _⟩, ⟨by exact Zq3⟩, ⟨by exact Zq5⟩, ⟨by exact Zq4⟩⟩
         case rest =>
          clear HC19
          try clear c1
          try clear p1
          try clear q1
          try clear hx1
          try clear c2
          try clear p2
          try clear p6
          try clear c7
          try clear c7b0
          try clear c9
          try clear c9b0
          try clear c10
          try clear c10b0
          try clear p10
          try clear q10
          try clear hx10
          try clear c12
          try clear c14
          try clear c16
          try clear c16b0
          try clear c16b1
          try clear c17
          try clear c18
          try clear c18b0
          try clear c18b1
          try clear c18b2
          try clear c20
          try clear c20b0
          try clear c20b1
          try clear hx1002_0
          try clear p1
          try clear p10
          try clear p1002
          try clear p2
          try clear p6
          try clear q1
          try clear q10
          try clear q1002
          obtain ⟨kq, x36_18, rfl, HA, HJ18, HI0, HK, HB⟩ := hcut
          cases kq with
          | zero => exact absurd HA.out (by simp [spec_l09DrawPath.j2])
          | succ kj18 =>
           have H := HA.out
           clear HA
           simp only [spec_l09DrawPath.j2] at H
           by_cases c21 : x36_18 = true
           ·subst c21
            rw [if_pos rfl] at H
            by_cases c22 : x9_1.size + (rdOf ByteArray.empty y996 t999).size ≤ 9223372036854775807
            ·rw [if_pos c22] at H
             have c22b0 := eq_true c22
             have c22b1 : decide (x9_1.size + (rdOf ByteArray.empty y996 t999).size ≤ 9223372036854775807) = true := decide_eq_true c22
             try have c22b2 : (9223372036854775807 < x9_1.size + (rdOf ByteArray.empty y996 t999).size) = False := eq_false (Nat.not_lt.2 c22)
             have H' := Aside0.mk H
             clear H
             go_wp2
             go_roundg kj18
             case measure => have := HK1.out; have := HJ10.out; have := HJ18.out; omega
             case rel => exact ⟨(wrap64 (x1_1 - 1)), (x9_1 ++ (rdOf ByteArray.empty y996 t999)), (wrap64 (x10_1 - 1)), (t1000), (t1001), (ZqS), (ZqS), (ZqS), H', ⟨by have := HK1.out; have := HJ10.out; have := HJ18.out; omega⟩, ⟨by exact Zq3⟩, ⟨by exact Zq5⟩, ⟨by exact Zq4⟩⟩
            ·rw [if_neg c22] at H
             exact absurd H (by simp)
           ·replace c21 := Bool.eq_false_iff.mpr c21
            subst c21
            rw [if_neg (show ¬ (false = true) by decide)] at H
            by_cases c23 : (rdOf ByteArray.empty y996 t999).toList = ([76] : List UInt8)
            ·rw [if_pos c23] at H
             have c23b0 : ((rdOf ByteArray.empty y996 t999).toList == ([76] : List UInt8)) = true := beq_iff_eq.mpr c23
             have c23b1 : ((rdOf ByteArray.empty y996 t999).toList != ([76] : List UInt8)) = false := bne_eq_false_iff_eq.mpr c23
             clear c23
             by_cases c24 : x9_1.size + (rdOf ByteArray.empty y996 t999).size ≤ 9223372036854775807
             ·rw [if_pos c24] at H
              have c24b0 := eq_true c24
              have c24b1 : decide (x9_1.size + (rdOf ByteArray.empty y996 t999).size ≤ 9223372036854775807) = true := decide_eq_true c24
              try have c24b2 : (9223372036854775807 < x9_1.size + (rdOf ByteArray.empty y996 t999).size) = False := eq_false (Nat.not_lt.2 c24)
              have H' := Aside0.mk H
              clear H
              go_wp2
              go_roundg kj18
              case measure => have := HK1.out; have := HJ10.out; have := HJ18.out; omega
              case rel => exact ⟨(x1_1), (x9_1 ++ (rdOf ByteArray.empty y996 t999)), (wrap64 (x10_1 - 1)), (t1000), (t1001), (ZqS), (ZqS), (ZqS), H', ⟨by have := HK1.out; have := HJ10.out; have := HJ18.out; omega⟩, ⟨by exact Zq3⟩, ⟨by exact Zq5⟩, ⟨by exact Zq4⟩⟩
             ·rw [if_neg c24] at H
              exact absurd H (by simp)
            ·rw [if_neg c23] at H
             have c23b0 : ((rdOf ByteArray.empty y996 t999).toList == ([76] : List UInt8)) = false := beq_eq_false_iff_ne.mpr c23
             have c23b1 : ((rdOf ByteArray.empty y996 t999).toList != ([76] : List UInt8)) = true := bne_iff_ne.mpr c23
             replace H := Option.bind_eq_some_iff.mp H
             obtain ⟨⟨t1003, t1004, t1005⟩, A250, H⟩ := H
             try dsimp only at H
             have A25 := Aside0.mk A250
             clear A250
             by_cases c26 : t1003 > 0
             ·rw [if_pos c26] at H
              have c26b0 : decide (0 < t1003) = true := decide_eq_true c26
              clear c26
              by_cases c27 : x9_1.size + 1 ≤ 9223372036854775807
              ·rw [if_pos c27] at H
               have c27b0 := eq_true c27
               have c27b1 : decide (x9_1.size + 1 ≤ 9223372036854775807) = true := decide_eq_true c27
               try have c27b2 : (9223372036854775807 < x9_1.size + 1) = False := eq_false (Nat.not_lt.2 c27)
               have H' := Aside0.mk H
               clear H
               go_wp2_with (first | (go_at_call 122; (with_reducible refine (spec_l01Next.calls g s0_0 t1000 t1001 30 t1003 t1004 t1005 w0 _ ?side1 ?side2 A25.out).mono ?_); (case side1 => exact Zq3); (case side2 => exact Zq4); rintro e w28 ⟨rfl, hi, hb, hk⟩; have n0_ := Aside0.mk (KeepBut.trans (by exact Zq5) hk (.inl rfl)); have n1_ := Aside0.mk (hb); have n2_ := Aside0.mk (hi); clear HK HB HI0; have HK := n0_; have HB := n1_; have HI0 := n2_; clear n0_ n1_ n2_; (try clear hb); (try clear hk); (try clear hi)))
               go_roundg kj18
               case measure => have := HK1.out; have := HJ10.out; have := HJ18.out; omega
               case rel => exact ⟨(x1_1), (x9_1 ++ (⟨#[76]⟩ : ByteArray)), (wrap64 (x10_1 - 1)), (t1004), (t1005), (ZqS), (ZqS), (ZqS), H', ⟨by have := HK1.out; have := HJ10.out; have := HJ18.out; omega⟩, ⟨by exact Zq3⟩, ⟨by exact Zq5⟩, ⟨by exact Zq4⟩⟩
              ·rw [if_neg c27] at H
               exact absurd H (by simp)
             ·rw [if_neg c26] at H
              have c26b0 : decide (0 < t1003) = false := decide_eq_false c26
              clear c26
              by_cases c29 : x9_1.size + (rdOf ByteArray.empty y996 t999).size ≤ 9223372036854775807
              ·rw [if_pos c29] at H
               have c29b0 := eq_true c29
               have c29b1 : decide (x9_1.size + (rdOf ByteArray.empty y996 t999).size ≤ 9223372036854775807) = true := decide_eq_true c29
               try have c29b2 : (9223372036854775807 < x9_1.size + (rdOf ByteArray.empty y996 t999).size) = False := eq_false (Nat.not_lt.2 c29)
               have H' := Aside0.mk H
               clear H
               go_wp2_with (first | (go_at_call 122; (with_reducible refine (spec_l01Next.calls g s0_0 t1000 t1001 30 t1003 t1004 t1005 w0 _ ?side1 ?side2 A25.out).mono ?_); (case side1 => exact Zq3); (case side2 => exact Zq4); rintro e w30 ⟨rfl, hi, hb, hk⟩; have n0_ := Aside0.mk (KeepBut.trans (by exact Zq5) hk (.inl rfl)); have n1_ := Aside0.mk (hb); have n2_ := Aside0.mk (hi); clear HK HB HI0; have HK := n0_; have HB := n1_; have HI0 := n2_; clear n0_ n1_ n2_; (try clear hb); (try clear hk); (try clear hi)))
               go_roundg kj18
               case measure => have := HK1.out; have := HJ10.out; have := HJ18.out; omega
               case rel => exact ⟨(x1_1), (x9_1 ++ (rdOf ByteArray.empty y996 t999)), (wrap64 (x10_1 - 1)), (t1004), (t1005), (ZqS), (ZqS), (ZqS), H', ⟨by have := HK1.out; have := HJ10.out; have := HJ18.out; omega⟩, ⟨by exact Zq3⟩, ⟨by exact Zq5⟩, ⟨by exact Zq4⟩⟩
              ·rw [if_neg c29] at H
               exact absurd H (by simp)
     ·rw [if_neg c10] at H
      exact absurd H (by simp)
    ·rw [if_neg c9] at H
     exact absurd H (by simp)
   ·rw [if_neg c7] at H
    have c7b0 : decide (0 < x10_1) = false := decide_eq_false c7
    clear c7
    replace H := Option.bind_eq_some_iff.mp H
    obtain ⟨⟨t1006, t1007, t1008⟩, A310, H⟩ := H
    try dsimp only at H
    have A31 := Aside0.mk A310
    clear A310
    by_cases c32 : t1006 = 0
    ·rw [if_pos c32] at H
     have c32b0 : (t1006 == 0) = true := beq_iff_eq.mpr c32
     have c32b1 : (t1006 != 0) = false := bne_eq_false_iff_eq.mpr c32
     clear c32
     replace H := Option.bind_eq_some_iff.mp H
     obtain ⟨⟨t1009, t1010, t1011⟩, A330, H⟩ := H
     try dsimp only at H
     have A33 := Aside0.mk A330
     clear A330
     by_cases c34 : x9_1.size + t1009.size ≤ 9223372036854775807
     ·rw [if_pos c34] at H
      have c34b0 := eq_true c34
      have c34b1 : decide (x9_1.size + t1009.size ≤ 9223372036854775807) = true := decide_eq_true c34
      try have c34b2 : (9223372036854775807 < x9_1.size + t1009.size) = False := eq_false (Nat.not_lt.2 c34)
      simp only [Option.some.injEq, Prod.mk.injEq] at H
      obtain ⟨rfl, rfl, rfl⟩ := H
      go_wp2_with (first | ((with_reducible refine gate_callee (f := 122) rfl ?_); refine goesL_ (some 57) rfl rfl Try.func122 (by kernel_rfl) rfl #[.pointer (some ⟨g, 0, none⟩), .int .i64 30] rfl ZA ?_; (with_reducible refine (spec_l01Next.calls g s0_0 x1001_1 x1002_1 30 t1006 t1007 t1008 w0 _ ?side1 ?side2 A31.out).mono ?_); (case side1 => exact Zq3); (case side2 => exact Zq4); rintro e w35 ⟨rfl, hi, hb, hk⟩; refine ⟨_, rfl, ?_⟩; have n0_ := Aside0.mk (KeepBut.trans (by exact Zq5) hk (.inl rfl)); have n1_ := Aside0.mk (hb); have n2_ := Aside0.mk (hi); clear HK HB HI0; have HK := n0_; have HB := n1_; have HI0 := n2_; clear n0_ n1_ n2_; (try clear hb); (try clear hk); (try clear hi)) | ((with_reducible refine gate_callee (f := 225) rfl ?_); refine goesL_ (some 61) rfl rfl Try.func225 (by kernel_rfl) rfl #[.pointer (some ⟨g, 0, none⟩)] rfl ZA ?_; (with_reducible refine (spec_l09NoPath.calls g s0_0 t1007 t1008 t1009 t1010 t1011 w0 _ ?side1 ?side2 A33.out).mono ?_); (case side1 => exact Zq3); (case side2 => exact Zq4); rintro e w36 ⟨rfl, hi, hb, hk⟩; refine ⟨_, rfl, ?_⟩; have n0_ := Aside0.mk (KeepBut.trans (by exact Zq5) hk (.inl rfl)); have n1_ := Aside0.mk (hb); have n2_ := Aside0.mk (hi); clear HK HB HI0; have HK := n0_; have HB := n1_; have HI0 := n2_; clear n0_ n1_ n2_; (try clear hb); (try clear hk); (try clear hi)))
      go_ret
      exact ⟨ZqR, by exact Zq3, by exact Zq4, by exact Zq5⟩
     ·rw [if_neg c34] at H
      exact absurd H (by simp)
    ·rw [if_neg c32] at H
     have c32b0 : (t1006 == 0) = false := beq_eq_false_iff_ne.mpr c32
     have c32b1 : (t1006 != 0) = true := bne_iff_ne.mpr c32
     simp only [Option.some.injEq, Prod.mk.injEq] at H
     obtain ⟨rfl, rfl, rfl⟩ := H
     go_wp2_with (first | ((with_reducible refine gate_callee (f := 122) rfl ?_); refine goesL_ (some 57) rfl rfl Try.func122 (by kernel_rfl) rfl #[.pointer (some ⟨g, 0, none⟩), .int .i64 30] rfl ZA ?_; (with_reducible refine (spec_l01Next.calls g s0_0 x1001_1 x1002_1 30 t1006 t1007 t1008 w0 _ ?side1 ?side2 A31.out).mono ?_); (case side1 => exact Zq3); (case side2 => exact Zq4); rintro e w37 ⟨rfl, hi, hb, hk⟩; refine ⟨_, rfl, ?_⟩; have n0_ := Aside0.mk (KeepBut.trans (by exact Zq5) hk (.inl rfl)); have n1_ := Aside0.mk (hb); have n2_ := Aside0.mk (hi); clear HK HB HI0; have HK := n0_; have HB := n1_; have HI0 := n2_; clear n0_ n1_ n2_; (try clear hb); (try clear hk); (try clear hi)))
     go_ret
     exact ⟨ZqR, by exact Zq3, by exact Zq4, by exact Zq5⟩

end Go.Proofs.Ytlodpobegdbhaaa.X
