/- Contracts of functions that the law reaches, printed by a program of this session; Lean checks them. -/
import Derived.Test.YtlodpobegdbhaaaCPathCountsX0
import Derived.Test.YtlodpobegdbhaaaCPathCountsX1
import Derived.Test.YtlodpobegdbhaaaCPathCountsX21
import Derived.Test.YtlodpobegdbhaaaCPathCountsX22
import Derived.Test.YtlodpobegdbhaaaCPathCountsX25
import Derived.Test.YtlodpobegdbhaaaCPathCountsX3
import Derived.Test.YtlodpobegdbhaaaCPathCountsXZ
namespace Go.Proofs.Ytlodpobegdbhaaa.X
open Go.RowKit Go.Proofs.YtlodpobegdbhaaaW.PrintWords Go.Proofs.YtlodpobegdbhaaaW.PrintLast Go.Proofs.YtlodpobegdbhaaaW.PrintMore
attribute [local go_sem] max2_int min2_int max_two min_two max_three min_three max_four min_four   -- for this text's walks alone
set_option linter.unusedVariables false
set_option linter.unusedSimpArgs false

/-! ### spec_l09Heights: function 147 -/
def spec_l09Heights.l0 : Nat → ByteArray → Int → List Int → Int → Option (List Int × Bool)
 | 0, _, _, _, _ => none
 | k + 1, x0, x1, x6, x7 => if x7 < (x0.size : Int) then (if 0 ≤ x7 then (if (bt x0 x7) = 85 then (if (wrap64 (x1 + 1)) < 0 then (some (([] : List Int), false)) else (if x6.length < 17592186044416 then (spec_l09Heights.l0 k x0 (wrap64 (x1 + 1)) (x6 ++ [wrap64 (x1 + 1)]) (wrap64 (x7 + 1))) else (none))) else (if (bt x0 x7) = 68 then (if (wrap64 (x1 - 1)) < 0 then (some (([] : List Int), false)) else (if x6.length < 17592186044416 then (spec_l09Heights.l0 k x0 (wrap64 (x1 - 1)) (x6 ++ [wrap64 (x1 - 1)]) (wrap64 (x7 + 1))) else (none))) else (if (bt x0 x7) = 76 then (if x1 < 0 then (some (([] : List Int), false)) else (if x6.length < 17592186044416 then (spec_l09Heights.l0 k x0 x1 (x6 ++ [x1]) (wrap64 (x7 + 1))) else (none))) else (some (([] : List Int), false))))) else (none)) else (some (x6, decide ((x0.size : Int) ≤ 24)))
def spec_l09Heights.f (k : Nat) (a0 : ByteArray) (a1 : Int) : Option (List Int × Bool) := spec_l09Heights.l0 k a0 a1 (([a1] : List Int)) 0
theorem spec_l09Heights.mono_l : ∀ k, (∀ y0 y1 y2 y3, LeO (spec_l09Heights.l0 k y0 y1 y2 y3) (spec_l09Heights.l0 (k + 1) y0 y1 y2 y3))
 | 0 => fun _ _ _ _ r h => by simp [spec_l09Heights.l0] at h
 | k + 1 => by
  have ih0 := spec_l09Heights.mono_l k
  ·intro y0 y1 y2 y3
   unfold spec_l09Heights.l0
   repeat' first
   | (with_reducible exact ih0 _ _ _ _)
   | (with_reducible exact LeO.refl _)
   | (with_reducible exact LeO.none _)
   | (with_reducible refine LeO.ite ?_ ?_)
   | (with_reducible refine LeO.bind ?_ (fun _ => ?_))
   | exact ih0 _ _ _ _
   | exact LeO.none _
   | refine LeO.ite ?_ ?_
   | refine LeO.bind ?_ (fun _ => ?_)
theorem spec_l09Heights.mono : ∀ a0 a1 k, LeO (spec_l09Heights.f k a0 a1) (spec_l09Heights.f (k + 1) a0 a1) := by
 intro a0 a1 k
 have ih0 := spec_l09Heights.mono_l k
 unfold spec_l09Heights.f
 repeat' first
   | (with_reducible exact ih0 _ _ _ _)
   | (with_reducible exact LeO.refl _)
   | (with_reducible exact LeO.none _)
   | (with_reducible refine LeO.ite ?_ ?_)
   | (with_reducible refine LeO.bind ?_ (fun _ => ?_))
   | exact ih0 _ _ _ _
   | exact LeO.none _
   | refine LeO.ite ?_ ?_
   | refine LeO.bind ?_ (fun _ => ?_)
set_option maxHeartbeats 8000000 in
set_option maxRecDepth 100000 in
theorem spec_l09Heights.calls (k : Nat) (a0 : ByteArray) (a1 : Int) (r1 : List Int) (r2 : Bool) (w : World) (h : spec_l09Heights.f k a0 a1 = some (r1, r2)) :
  Calls Try.prog 147 #[.string a0, .int .i64 a1] w fun e w' => ∃ v0_ : Value, e = .returned (.tuple #[v0_, .bool r2]) ∧ Kd.R (Kd.int .i64) 2 w' w.heap.size (fun _ => True) v0_ r1 ∧ Below w.heap.size w w' := by
 have HB := Aside0.mk (Below.refl w.heap.size w)
 have H : (spec_l09Heights.l0 k a0 a1 (([a1] : List Int)) 0) = some (r1, r2) := h
 clear h
 obtain ⟨y1038, hy1038⟩ : ∃ y_ : List Int, y_ = (([a1] : List Int)) := ⟨_, rfl⟩
 replace H : (spec_l09Heights.l0 k a0 a1 y1038 0) = some (r1, r2) := by have hq_ := hy1038; exact ZqH
 have Ny1038 := Aside0.mk hy1038
 clear hy1038
 have H' := Aside0.mk H
 clear H
 go_enter Try.func147, Try.ntmps147
 go_wp2_with (first | ((with_reducible refine gate_dst (N := 9) rfl ?_); refine Kd.R_lit (Kd.int .i64) _ 2 ?hg (N := 9) ?hd (xs := ([a1] : List Int)) (inner := [.int .i64 a1]) (ok := fun _ => True) (okp := fun _ => True) ?hr ?hp (fun _ hk => hk) trivial (Below.refl _ _) (Nat.le_refl _) (by simp) ?_; (case hd => rfl); (case hg => rfl); (case hr => exact ZqT); (case hp => exact (Reps.one (show Kd.M (Kd.int .i64) _ _ _ a1 [.int .i64 a1] from rfl) (Reps.none _ _))); intro v1039 w3 ho4 hb hg_ hnew_; clear hg_ hnew_; (first | rw [← Ny1038.out] at ho4 | (simp only [Int.reduceToNat] at ho4; rw [← Ny1038.out] at ho4)); have n0_ := Aside0.mk (Kd.R_lower ho4 (below_size ZB)); have n1_ := Aside0.mk (below_step ZB hb); clear HB; have HO1040 := n0_; have HB := n1_; clear n0_ n1_; clear hb ho4))
 go_loopg [1, 6, 7] k (fun kq v1 v6 v7 w' => ∃ (x1_1 : Int) (x6_1 : List Int) (x7_1 : Int), v1 = .int .i64 x1_1 ∧ v7 = .int .i64 x7_1 ∧ Aside0 (spec_l09Heights.l0 kq a0 x1_1 x6_1 x7_1 = some (r1, r2)) ∧ Aside0 (kq ≤ k) ∧ Aside0 (Kd.R (Kd.int .i64) 2 w' w.heap.size (fun _ => True) v6 x6_1) ∧ Aside0 (Below w.heap.size w w'))
 case atStart => exact ⟨(a1), (y1038), (0), (ZqS), (ZqS), H', ⟨Nat.le_refl _⟩, ⟨ZR HO1040⟩, ⟨ZB⟩⟩
 case round =>
  clear H'
  try clear c1
  try clear p2
  obtain ⟨x1_1, x6_1, x7_1, rfl, rfl, HA, HK1, HO_6, HB⟩ := hrel
  cases gk with
  | zero => exact absurd HA.out (by simp [spec_l09Heights.l0])
  | succ k1 =>
   have H := HA.out
   clear HA
   simp only [spec_l09Heights.l0] at H
   by_cases c5 : x7_1 < (a0.size : Int)
   ·rw [if_pos c5] at H
    have c5b0 : decide (x7_1 < (a0.size : Int)) = true := decide_eq_true c5
    clear c5
    by_cases c6 : 0 ≤ x7_1
    ·rw [if_pos c6] at H
     have c6b0 : decide (0 ≤ x7_1) = true := decide_eq_true c6
     clear c6
     by_cases c8 : (bt a0 x7_1) = 85
     ·rw [if_pos c8] at H
      have c8b0 : ((bt a0 x7_1) == 85) = true := beq_iff_eq.mpr c8
      have c8b1 : ((bt a0 x7_1) != 85) = false := bne_eq_false_iff_eq.mpr c8
      clear c8
      by_cases c9 : (wrap64 (x1_1 + 1)) < 0
      ·rw [if_pos c9] at H
       have c9b0 : decide ((wrap64 (x1_1 + 1)) < 0) = true := decide_eq_true c9
       clear c9
       simp only [Option.some.injEq, Prod.mk.injEq] at H
       obtain ⟨rfl, rfl⟩ := H
       have p7 : 0 ≤ (x7_1 : Int) := of_decide_eq_true (by first | (with_reducible assumption) | assumption)
       have q7 : x7_1 < (a0.size : Int) := of_decide_eq_true (by first | (with_reducible assumption) | assumption)
       have hx7 := bt_at a0 x7_1
       replace p7 := eq_true p7
       replace q7 := eq_true q7
       go_wp2
       go_ret2
       exact ⟨_, ZqR, by first | exact Kd.R_nil _ _ _ _ _ | exact Kd.N_nil _ _ _ _ _ | exact Kd.V_nil _ _ _ _ _ | exact Kd.Q_nil _ _ _ _ _ | exact Kd.S_nil _ _ _ _ _, ZB⟩
      ·rw [if_neg c9] at H
       have c9b0 : decide ((wrap64 (x1_1 + 1)) < 0) = false := decide_eq_false c9
       clear c9
       by_cases c10 : x6_1.length < 17592186044416
       ·rw [if_pos c10] at H
        have LMc10 := Aside0.mk c10
        clear c10
        obtain ⟨y1041, hy1041⟩ : ∃ y_ : List Int, y_ = (x6_1 ++ [wrap64 (x1_1 + 1)]) := ⟨_, rfl⟩
        replace H : (spec_l09Heights.l0 k1 a0 (wrap64 (x1_1 + 1)) y1041 (wrap64 (x7_1 + 1))) = some (r1, r2) := by have hq_ := hy1041; exact ZqH
        have Ny1041 := Aside0.mk hy1041
        clear hy1041
        have H' := Aside0.mk H
        clear H
        have p7 : 0 ≤ (x7_1 : Int) := of_decide_eq_true (by first | (with_reducible assumption) | assumption)
        have q7 : x7_1 < (a0.size : Int) := of_decide_eq_true (by first | (with_reducible assumption) | assumption)
        have hx7 := bt_at a0 x7_1
        replace p7 := eq_true p7
        replace q7 := eq_true q7
        go_wp2_with (first | ((with_reducible refine gate_builtin (b := .append) (xs := #[.tmp 31, .tmp 33]) rfl ?_); at_builtin; refine Kd.R_append (Kd.int .i64) (w0 := w) w.heap.size rfl (.tmp 31) (.tmp 33) 24 2 (.int .i64 0) 8 rfl Try.underlying24 info2 rfl (by decide) (by omega) u6 x6_1 (wrap64 (x1_1 + 1)) [.int .i64 (wrap64 (x1_1 + 1))] (fun _ => True) (fun _ => False) rfl rfl ?aP (fun _ hk => hk.elim) ?aF ?aO ?aB ?aS ?aL ?_; (case aP => exact rfl); (case aB => exact ZB); (case aF => exact (fun _ _ => trivial)); (case aO => exact (ZR HO_6)); (case aS => exact (below_size ZB)); (case aL => have := LMc10.out; omega); intro v1042 w11 ho hb hg hat; rw [← Ny1041.out] at ho; have n0_ := Aside0.mk (hb); have n1_ := Aside0.mk (ho); clear HB HO_6; have HB := n0_; have HO1043 := n1_; clear n0_ n1_; clear ho hb hg hat))
        go_roundg k1
        case measure => have := HK1.out; omega
        case rel => exact ⟨(wrap64 (x1_1 + 1)), (y1041), (wrap64 (x7_1 + 1)), (ZqS), (ZqS), H', ⟨by have := HK1.out; omega⟩, ⟨ZR HO1043⟩, ⟨ZB⟩⟩
       ·rw [if_neg c10] at H
        exact absurd H (by simp)
     ·rw [if_neg c8] at H
      have c8b0 : ((bt a0 x7_1) == 85) = false := beq_eq_false_iff_ne.mpr c8
      have c8b1 : ((bt a0 x7_1) != 85) = true := bne_iff_ne.mpr c8
      by_cases c12 : (bt a0 x7_1) = 68
      ·rw [if_pos c12] at H
       have c12b0 : ((bt a0 x7_1) == 68) = true := beq_iff_eq.mpr c12
       have c12b1 : ((bt a0 x7_1) != 68) = false := bne_eq_false_iff_eq.mpr c12
       clear c12
       by_cases c13 : (wrap64 (x1_1 - 1)) < 0
       ·rw [if_pos c13] at H
        have c13b0 : decide ((wrap64 (x1_1 - 1)) < 0) = true := decide_eq_true c13
        clear c13
        simp only [Option.some.injEq, Prod.mk.injEq] at H
        obtain ⟨rfl, rfl⟩ := H
        have p7 : 0 ≤ (x7_1 : Int) := of_decide_eq_true (by first | (with_reducible assumption) | assumption)
        have q7 : x7_1 < (a0.size : Int) := of_decide_eq_true (by first | (with_reducible assumption) | assumption)
        have hx7 := bt_at a0 x7_1
        replace p7 := eq_true p7
        replace q7 := eq_true q7
        go_wp2
        go_ret2
        exact ⟨_, ZqR, by first | exact Kd.R_nil _ _ _ _ _ | exact Kd.N_nil _ _ _ _ _ | exact Kd.V_nil _ _ _ _ _ | exact Kd.Q_nil _ _ _ _ _ | exact Kd.S_nil _ _ _ _ _, ZB⟩
       ·rw [if_neg c13] at H
        have c13b0 : decide ((wrap64 (x1_1 - 1)) < 0) = false := decide_eq_false c13
        clear c13
        by_cases c14 : x6_1.length < 17592186044416
        ·rw [if_pos c14] at H
         have LMc14 := Aside0.mk c14
         clear c14
         obtain ⟨y1044, hy1044⟩ : ∃ y_ : List Int, y_ = (x6_1 ++ [wrap64 (x1_1 - 1)]) := ⟨_, rfl⟩
         replace H : (spec_l09Heights.l0 k1 a0 (wrap64 (x1_1 - 1)) y1044 (wrap64 (x7_1 + 1))) = some (r1, r2) := by have hq_ := hy1044; exact ZqH
         have Ny1044 := Aside0.mk hy1044
         clear hy1044
         have H' := Aside0.mk H
         clear H
         have p7 : 0 ≤ (x7_1 : Int) := of_decide_eq_true (by first | (with_reducible assumption) | assumption)
         have q7 : x7_1 < (a0.size : Int) := of_decide_eq_true (by first | (with_reducible assumption) | assumption)
         have hx7 := bt_at a0 x7_1
         replace p7 := eq_true p7
         replace q7 := eq_true q7
         go_wp2_with (first | ((with_reducible refine gate_builtin (b := .append) (xs := #[.tmp 31, .tmp 33]) rfl ?_); at_builtin; refine Kd.R_append (Kd.int .i64) (w0 := w) w.heap.size rfl (.tmp 31) (.tmp 33) 24 2 (.int .i64 0) 8 rfl Try.underlying24 info2 rfl (by decide) (by omega) u6 x6_1 (wrap64 (x1_1 - 1)) [.int .i64 (wrap64 (x1_1 - 1))] (fun _ => True) (fun _ => False) rfl rfl ?aP (fun _ hk => hk.elim) ?aF ?aO ?aB ?aS ?aL ?_; (case aP => exact rfl); (case aB => exact ZB); (case aF => exact (fun _ _ => trivial)); (case aO => exact (ZR HO_6)); (case aS => exact (below_size ZB)); (case aL => have := LMc14.out; omega); intro v1045 w15 ho hb hg hat; rw [← Ny1044.out] at ho; have n0_ := Aside0.mk (hb); have n1_ := Aside0.mk (ho); clear HB HO_6; have HB := n0_; have HO1046 := n1_; clear n0_ n1_; clear ho hb hg hat))
         go_roundg k1
         case measure => have := HK1.out; omega
         case rel => exact ⟨(wrap64 (x1_1 - 1)), (y1044), (wrap64 (x7_1 + 1)), (ZqS), (ZqS), H', ⟨by have := HK1.out; omega⟩, ⟨ZR HO1046⟩, ⟨ZB⟩⟩
        ·rw [if_neg c14] at H
         exact absurd H (by simp)
      ·rw [if_neg c12] at H
       have c12b0 : ((bt a0 x7_1) == 68) = false := beq_eq_false_iff_ne.mpr c12
       have c12b1 : ((bt a0 x7_1) != 68) = true := bne_iff_ne.mpr c12
       by_cases c16 : (bt a0 x7_1) = 76
       ·rw [if_pos c16] at H
        have c16b0 : ((bt a0 x7_1) == 76) = true := beq_iff_eq.mpr c16
        have c16b1 : ((bt a0 x7_1) != 76) = false := bne_eq_false_iff_eq.mpr c16
        clear c16
        by_cases c17 : x1_1 < 0
        ·rw [if_pos c17] at H
         have c17b0 : decide (x1_1 < 0) = true := decide_eq_true c17
         clear c17
         simp only [Option.some.injEq, Prod.mk.injEq] at H
         obtain ⟨rfl, rfl⟩ := H
         have p7 : 0 ≤ (x7_1 : Int) := of_decide_eq_true (by first | (with_reducible assumption) | assumption)
         have q7 : x7_1 < (a0.size : Int) := of_decide_eq_true (by first | (with_reducible assumption) | assumption)
         have hx7 := bt_at a0 x7_1
         replace p7 := eq_true p7
         replace q7 := eq_true q7
         go_wp2
         go_ret2
         exact ⟨_, ZqR, by first | exact Kd.R_nil _ _ _ _ _ | exact Kd.N_nil _ _ _ _ _ | exact Kd.V_nil _ _ _ _ _ | exact Kd.Q_nil _ _ _ _ _ | exact Kd.S_nil _ _ _ _ _, ZB⟩
        ·rw [if_neg c17] at H
         have c17b0 : decide (x1_1 < 0) = false := decide_eq_false c17
         clear c17
         by_cases c18 : x6_1.length < 17592186044416
         ·rw [if_pos c18] at H
          have LMc18 := Aside0.mk c18
          clear c18
          obtain ⟨y1047, hy1047⟩ : ∃ y_ : List Int, y_ = (x6_1 ++ [x1_1]) := ⟨_, rfl⟩
          replace H : (spec_l09Heights.l0 k1 a0 x1_1 y1047 (wrap64 (x7_1 + 1))) = some (r1, r2) := by have hq_ := hy1047; exact ZqH
          have Ny1047 := Aside0.mk hy1047
          clear hy1047
          have H' := Aside0.mk H
          clear H
          have p7 : 0 ≤ (x7_1 : Int) := of_decide_eq_true (by first | (with_reducible assumption) | assumption)
          have q7 : x7_1 < (a0.size : Int) := of_decide_eq_true (by first | (with_reducible assumption) | assumption)
          have hx7 := bt_at a0 x7_1
          replace p7 := eq_true p7
          replace q7 := eq_true q7
          go_wp2_with (first | ((with_reducible refine gate_builtin (b := .append) (xs := #[.tmp 31, .tmp 33]) rfl ?_); at_builtin; refine Kd.R_append (Kd.int .i64) (w0 := w) w.heap.size rfl (.tmp 31) (.tmp 33) 24 2 (.int .i64 0) 8 rfl Try.underlying24 info2 rfl (by decide) (by omega) u6 x6_1 x1_1 [.int .i64 x1_1] (fun _ => True) (fun _ => False) rfl rfl ?aP (fun _ hk => hk.elim) ?aF ?aO ?aB ?aS ?aL ?_; (case aP => exact rfl); (case aB => exact ZB); (case aF => exact (fun _ _ => trivial)); (case aO => exact (ZR HO_6)); (case aS => exact (below_size ZB)); (case aL => have := LMc18.out; omega); intro v1048 w19 ho hb hg hat; rw [← Ny1047.out] at ho; have n0_ := Aside0.mk (hb); have n1_ := Aside0.mk (ho); clear HB HO_6; have HB := n0_; have HO1049 := n1_; clear n0_ n1_; clear ho hb hg hat))
          go_roundg k1
          case measure => have := HK1.out; omega
          case rel => exact ⟨(x1_1), (y1047), (wrap64 (x7_1 + 1)), (ZqS), (ZqS), H', ⟨by have := HK1.out; omega⟩, ⟨ZR HO1049⟩, ⟨ZB⟩⟩
         ·rw [if_neg c18] at H
          exact absurd H (by simp)
       ·rw [if_neg c16] at H
        have c16b0 : ((bt a0 x7_1) == 76) = false := beq_eq_false_iff_ne.mpr c16
        have c16b1 : ((bt a0 x7_1) != 76) = true := bne_iff_ne.mpr c16
        simp only [Option.some.injEq, Prod.mk.injEq] at H
        obtain ⟨rfl, rfl⟩ := H
        have p7 : 0 ≤ (x7_1 : Int) := of_decide_eq_true (by first | (with_reducible assumption) | assumption)
        have q7 : x7_1 < (a0.size : Int) := of_decide_eq_true (by first | (with_reducible assumption) | assumption)
        have hx7 := bt_at a0 x7_1
        replace p7 := eq_true p7
        replace q7 := eq_true q7
        go_wp2
        go_ret2
        exact ⟨_, ZqR, by first | exact Kd.R_nil _ _ _ _ _ | exact Kd.N_nil _ _ _ _ _ | exact Kd.V_nil _ _ _ _ _ | exact Kd.Q_nil _ _ _ _ _ | exact Kd.S_nil _ _ _ _ _, ZB⟩
    ·rw [if_neg c6] at H
     exact absurd H (by simp)
   ·rw [if_neg c5] at H
    have c5b0 : decide (x7_1 < (a0.size : Int)) = false := decide_eq_false c5
    clear c5
    simp only [Option.some.injEq, Prod.mk.injEq] at H
    obtain ⟨rfl, rfl⟩ := H
    go_wp2
    go_ret2
    exact ⟨_, ZqR, by refine ZQ ?_; exact HO_6.out, ZB⟩

/-! ### spec_ReversePath: function 33 -/
def spec_ReversePath.l0 : Nat → ByteArray → List Int → Int → Option (ByteArray × Int)
 | 0, _, _, _ => none
 | k + 1, x0, x8, x9 => if x9 ≥ 0 then (if 0 ≤ x9 then (if x9 < (x0.size : Int) then (if (bt x0 x9) = 85 then (if x8.length < 140737488355328 then (spec_ReversePath.l0 k x0 (x8 ++ [68]) (wrap64 (x9 - 1))) else (none)) else (if (bt x0 x9) = 68 then (if x8.length < 140737488355328 then (spec_ReversePath.l0 k x0 (x8 ++ [85]) (wrap64 (x9 - 1))) else (none)) else (if x8.length < 140737488355328 then (spec_ReversePath.l0 k x0 (x8 ++ [76]) (wrap64 (x9 - 1))) else (none)))) else (none)) else (none)) else (some (strOfNums x8, 0))
def spec_ReversePath.f (k : Nat) (a0 : ByteArray) (a1 : Int) : Option (ByteArray × Int) := (spec_l01In.f a1 0 24).bind fun t1050 => (if t1050 = true then ((spec_l09Heights.f k a0 a1).bind fun bt1051 => (if bt1051.2 = true then (spec_ReversePath.l0 k a0 (([] : List Int)) (wrap64 ((a0.size : Int) - 1))) else (some ((⟨#[]⟩ : ByteArray), 2)))) else (some ((⟨#[]⟩ : ByteArray), 2)))
theorem spec_ReversePath.mono_l : ∀ k, (∀ y0 y1 y2, LeO (spec_ReversePath.l0 k y0 y1 y2) (spec_ReversePath.l0 (k + 1) y0 y1 y2))
 | 0 => fun _ _ _ r h => by simp [spec_ReversePath.l0] at h
 | k + 1 => by
  have ih0 := spec_ReversePath.mono_l k
  ·intro y0 y1 y2
   unfold spec_ReversePath.l0
   repeat' first
   | (with_reducible exact ih0 _ _ _)
   | (with_reducible exact spec_l09Heights.mono _ _ _)
   | (with_reducible exact LeO.refl _)
   | (with_reducible exact LeO.none _)
   | (with_reducible refine LeO.ite ?_ ?_)
   | (with_reducible refine LeO.bind ?_ (fun _ => ?_))
   | exact ih0 _ _ _
   | exact spec_l09Heights.mono _ _ _
   | exact LeO.none _
   | refine LeO.ite ?_ ?_
   | refine LeO.bind ?_ (fun _ => ?_)
theorem spec_ReversePath.mono : ∀ a0 a1 k, LeO (spec_ReversePath.f k a0 a1) (spec_ReversePath.f (k + 1) a0 a1) := by
 intro a0 a1 k
 have ih0 := spec_ReversePath.mono_l k
 unfold spec_ReversePath.f
 repeat' first
   | (with_reducible exact ih0 _ _ _)
   | (with_reducible exact spec_l09Heights.mono _ _ _)
   | (with_reducible exact LeO.refl _)
   | (with_reducible exact LeO.none _)
   | (with_reducible refine LeO.ite ?_ ?_)
   | (with_reducible refine LeO.bind ?_ (fun _ => ?_))
   | exact ih0 _ _ _
   | exact spec_l09Heights.mono _ _ _
   | exact LeO.none _
   | refine LeO.ite ?_ ?_
   | refine LeO.bind ?_ (fun _ => ?_)
set_option maxHeartbeats 8000000 in
set_option maxRecDepth 100000 in
theorem spec_ReversePath.calls (k : Nat) (a0 : ByteArray) (a1 : Int) (r1 : ByteArray) (r2 : Int) (w : World) (h : spec_ReversePath.f k a0 a1 = some (r1, r2)) :
  Calls Try.prog 33 #[.string a0, .int .i64 a1] w fun e w' => e = .returned (.tuple #[.string r1, .int .i64 r2]) ∧ Below w.heap.size w w' := by
 have HB := Aside0.mk (Below.refl w.heap.size w)
 have H : ((spec_l01In.f a1 0 24).bind fun t1050 => (if t1050 = true then ((spec_l09Heights.f k a0 a1).bind fun bt1051 => (if bt1051.2 = true then (spec_ReversePath.l0 k a0 (([] : List Int)) (wrap64 ((a0.size : Int) - 1))) else (some ((⟨#[]⟩ : ByteArray), 2)))) else (some ((⟨#[]⟩ : ByteArray), 2)))) = some (r1, r2) := h
 clear h
 replace H := Option.bind_eq_some_iff.mp H
 obtain ⟨t1050, A30, H⟩ := H
 try dsimp only at H
 have A3 := Aside0.mk A30
 clear A30
 by_cases c4 : t1050 = true
 ·subst c4
  rw [if_pos rfl] at H
  replace H := Option.bind_eq_some_iff.mp H
  obtain ⟨⟨t1051, t1052⟩, A50, H⟩ := H
  try dsimp only at H
  have A5 := Aside0.mk A50
  clear A50
  by_cases c6 : t1052 = true
  ·subst c6
   rw [if_pos rfl] at H
   obtain ⟨y1055, hy1055⟩ : ∃ y_ : List Int, y_ = (([] : List Int)) := ⟨_, rfl⟩
   replace H : (spec_ReversePath.l0 k a0 y1055 (wrap64 ((a0.size : Int) - 1))) = some (r1, r2) := by have hq_ := hy1055; exact ZqH
   have Ny1055 := Aside0.mk hy1055
   clear hy1055
   have H' := Aside0.mk H
   clear H
   go_enter Try.func33, Try.ntmps33
   go_wp2_with (first | ((with_reducible refine gate_callee (f := 126) rfl ?_); refine goesL_ (some 11) rfl rfl Try.func126 (by kernel_rfl) rfl #[.int .i64 a1, .int .i64 0, .int .i64 24] rfl ZA ?_; (with_reducible refine (spec_l01In.calls a1 0 24 true _ A3.out).mono ?_); rintro e w' ⟨rfl, ⟨nd, rfl⟩⟩; refine ⟨_, rfl, ?_⟩) | ((with_reducible refine gate_callee (f := 147) rfl ?_); refine goesL_ (some 16) rfl rfl Try.func147 (by kernel_rfl) rfl #[.string a0, .int .i64 a1] rfl ZA ?_; (with_reducible refine (spec_l09Heights.calls k a0 a1 t1051 true _ A5.out).mono ?_); rintro e w7 ⟨v1053, rfl, ho0, hb⟩; refine ⟨_, rfl, ?_⟩; have n0_ := Aside0.mk (Kd.R_lower ho0 (below_size ZB)); have n1_ := Aside0.mk (below_step ZB hb); clear HB; have HO1054 := n0_; have HB := n1_; clear n0_ n1_; (try clear hb); (try clear ho0)) | ((with_reducible refine gate_dst (N := 21) rfl ?_); refine Kd.R_lit (Kd.int .u8) _ 5 ?hg (N := 21) ?hd (xs := ([] : List Int)) (inner := []) (ok := fun _ => True) (okp := fun _ => True) ?hr ?hp (fun _ hk => hk) trivial (Below.refl _ _) (Nat.le_refl _) (by simp) ?_; (case hd => rfl); (case hg => rfl); (case hr => exact ZqT); (case hp => exact (Reps.none _ _)); intro v1056 w8 ho9 hb hg_ hnew_; clear hg_ hnew_; (first | rw [← Ny1055.out] at ho9 | (simp only [Int.reduceToNat] at ho9; rw [← Ny1055.out] at ho9)); have n0_ := Aside0.mk (Kd.R_below (ZR HO1054) hb); have n1_ := Aside0.mk (Kd.R_lower ho9 (below_size ZB)); have n2_ := Aside0.mk (below_step ZB hb); clear HO1054 HB; have HO1054 := n0_; have HO1057 := n1_; have HB := n2_; clear n0_ n1_ n2_; clear hb ho9))
   go_loopg [8, 9] k (fun kq v8 v9 w' => ∃ (x8_1 : List Int) (x9_1 : Int), v9 = .int .i64 x9_1 ∧ Aside0 (spec_ReversePath.l0 kq a0 x8_1 x9_1 = some (r1, r2)) ∧ Aside0 (kq ≤ k) ∧ Aside0 (Kd.R (Kd.int .u8) 5 w' w.heap.size (fun _ => True) v8 x8_1) ∧ Aside0 (Below w.heap.size w w'))
   case atStart => exact ⟨(y1055), (wrap64 ((a0.size : Int) - 1)), (ZqS), H', ⟨Nat.le_refl _⟩, ⟨ZR HO1057⟩, ⟨ZB⟩⟩
   case round =>
    clear H'
    try clear c1
    try clear p2
    try clear c3
    try clear c4
    try clear c6
    try clear p6
    obtain ⟨x8_1, x9_1, rfl, HA, HK1, HO_8, HB⟩ := hrel
    cases gk with
    | zero => exact absurd HA.out (by simp [spec_ReversePath.l0])
    | succ k1 =>
     have H := HA.out
     clear HA
     simp only [spec_ReversePath.l0] at H
     by_cases c10 : x9_1 ≥ 0
     ·rw [if_pos c10] at H
      have c10b0 : decide (0 ≤ x9_1) = true := decide_eq_true c10
      clear c10
      by_cases c11 : 0 ≤ x9_1
      ·rw [if_pos c11] at H
       have c11b0 : decide (0 ≤ x9_1) = true := decide_eq_true c11
       clear c11
       by_cases c12 : x9_1 < (a0.size : Int)
       ·rw [if_pos c12] at H
        have c12b0 : decide (x9_1 < (a0.size : Int)) = true := decide_eq_true c12
        clear c12
        by_cases c14 : (bt a0 x9_1) = 85
        ·rw [if_pos c14] at H
         have c14b0 : ((bt a0 x9_1) == 85) = true := beq_iff_eq.mpr c14
         have c14b1 : ((bt a0 x9_1) != 85) = false := bne_eq_false_iff_eq.mpr c14
         clear c14
         by_cases c15 : x8_1.length < 140737488355328
         ·rw [if_pos c15] at H
          have LMc15 := Aside0.mk c15
          clear c15
          obtain ⟨y1058, hy1058⟩ : ∃ y_ : List Int, y_ = (x8_1 ++ [68]) := ⟨_, rfl⟩
          replace H : (spec_ReversePath.l0 k1 a0 y1058 (wrap64 (x9_1 - 1))) = some (r1, r2) := by have hq_ := hy1058; exact ZqH
          have Ny1058 := Aside0.mk hy1058
          clear hy1058
          have H' := Aside0.mk H
          clear H
          have p13 : 0 ≤ (x9_1 : Int) := of_decide_eq_true (by first | (with_reducible assumption) | assumption)
          have q13 : x9_1 < (a0.size : Int) := of_decide_eq_true (by first | (with_reducible assumption) | assumption)
          have hx13 := bt_at a0 x9_1
          replace p13 := eq_true p13
          replace q13 := eq_true q13
          go_wp2_with (first | ((with_reducible refine gate_builtin (b := .append) (xs := #[.tmp 37, .tmp 38]) rfl ?_); at_builtin; refine Kd.R_append (Kd.int .u8) (w0 := w) w.heap.size rfl (.tmp 37) (.tmp 38) 22 5 (.int .u8 0) 1 rfl Try.underlying22 info5 rfl (by decide) (by omega) u8 x8_1 68 [.int .u8 68] (fun _ => True) (fun _ => False) rfl rfl ?aP (fun _ hk => hk.elim) ?aF ?aO ?aB ?aS ?aL ?_; (case aP => exact rfl); (case aB => exact ZB); (case aF => exact (fun _ _ => trivial)); (case aO => exact (ZR HO_8)); (case aS => exact (below_size ZB)); (case aL => have := LMc15.out; omega); intro v1059 w16 ho hb hg hat; rw [← Ny1058.out] at ho; have n0_ := Aside0.mk (hb); have n1_ := Aside0.mk (ho); clear HB HO_8; have HB := n0_; have HO1060 := n1_; clear n0_ n1_; clear ho hb hg hat))
          go_roundg k1
          case measure => have := HK1.out; omega
          case rel => exact ⟨(y1058), (wrap64 (x9_1 - 1)), (ZqS), H', ⟨by have := HK1.out; omega⟩, ⟨ZR HO1060⟩, ⟨ZB⟩⟩
         ·rw [if_neg c15] at H
          exact absurd H (by simp)
        ·rw [if_neg c14] at H
         have c14b0 : ((bt a0 x9_1) == 85) = false := beq_eq_false_iff_ne.mpr c14
         have c14b1 : ((bt a0 x9_1) != 85) = true := bne_iff_ne.mpr c14
         by_cases c17 : (bt a0 x9_1) = 68
         ·rw [if_pos c17] at H
          have c17b0 : ((bt a0 x9_1) == 68) = true := beq_iff_eq.mpr c17
          have c17b1 : ((bt a0 x9_1) != 68) = false := bne_eq_false_iff_eq.mpr c17
          clear c17
          by_cases c18 : x8_1.length < 140737488355328
          ·rw [if_pos c18] at H
           have LMc18 := Aside0.mk c18
           clear c18
           obtain ⟨y1061, hy1061⟩ : ∃ y_ : List Int, y_ = (x8_1 ++ [85]) := ⟨_, rfl⟩
           replace H : (spec_ReversePath.l0 k1 a0 y1061 (wrap64 (x9_1 - 1))) = some (r1, r2) := by have hq_ := hy1061; exact ZqH
           have Ny1061 := Aside0.mk hy1061
           clear hy1061
           have H' := Aside0.mk H
           clear H
           have p13 : 0 ≤ (x9_1 : Int) := of_decide_eq_true (by first | (with_reducible assumption) | assumption)
           have q13 : x9_1 < (a0.size : Int) := of_decide_eq_true (by first | (with_reducible assumption) | assumption)
           have hx13 := bt_at a0 x9_1
           replace p13 := eq_true p13
           replace q13 := eq_true q13
           go_wp2_with (first | ((with_reducible refine gate_builtin (b := .append) (xs := #[.tmp 42, .tmp 43]) rfl ?_); at_builtin; refine Kd.R_append (Kd.int .u8) (w0 := w) w.heap.size rfl (.tmp 42) (.tmp 43) 22 5 (.int .u8 0) 1 rfl Try.underlying22 info5 rfl (by decide) (by omega) u8 x8_1 85 [.int .u8 85] (fun _ => True) (fun _ => False) rfl rfl ?aP (fun _ hk => hk.elim) ?aF ?aO ?aB ?aS ?aL ?_; (case aP => exact rfl); (case aB => exact ZB); (case aF => exact (fun _ _ => trivial)); (case aO => exact (ZR HO_8)); (case aS => exact (below_size ZB)); (case aL => have := LMc18.out; omega); intro v1062 w19 ho hb hg hat; rw [← Ny1061.out] at ho; have n0_ := Aside0.mk (hb); have n1_ := Aside0.mk (ho); clear HB HO_8; have HB := n0_; have HO1063 := n1_; clear n0_ n1_; clear ho hb hg hat))
           go_roundg k1
           case measure => have := HK1.out; omega
           case rel => exact ⟨(y1061), (wrap64 (x9_1 - 1)), (ZqS), H', ⟨by have := HK1.out; omega⟩, ⟨ZR HO1063⟩, ⟨ZB⟩⟩
          ·rw [if_neg c18] at H
           exact absurd H (by simp)
         ·rw [if_neg c17] at H
          have c17b0 : ((bt a0 x9_1) == 68) = false := beq_eq_false_iff_ne.mpr c17
          have c17b1 : ((bt a0 x9_1) != 68) = true := bne_iff_ne.mpr c17
          by_cases c20 : x8_1.length < 140737488355328
          ·rw [if_pos c20] at H
           have LMc20 := Aside0.mk c20
           clear c20
           obtain ⟨y1064, hy1064⟩ : ∃ y_ : List Int, y_ = (x8_1 ++ [76]) := ⟨_, rfl⟩
           replace H : (spec_ReversePath.l0 k1 a0 y1064 (wrap64 (x9_1 - 1))) = some (r1, r2) := by have hq_ := hy1064; exact ZqH
           have Ny1064 := Aside0.mk hy1064
           clear hy1064
           have H' := Aside0.mk H
           clear H
           have p13 : 0 ≤ (x9_1 : Int) := of_decide_eq_true (by first | (with_reducible assumption) | assumption)
           have q13 : x9_1 < (a0.size : Int) := of_decide_eq_true (by first | (with_reducible assumption) | assumption)
           have hx13 := bt_at a0 x9_1
           replace p13 := eq_true p13
           replace q13 := eq_true q13
           go_wp2_with (first | ((with_reducible refine gate_builtin (b := .append) (xs := #[.tmp 32, .tmp 33]) rfl ?_); at_builtin; refine Kd.R_append (Kd.int .u8) (w0 := w) w.heap.size rfl (.tmp 32) (.tmp 33) 22 5 (.int .u8 0) 1 rfl Try.underlying22 info5 rfl (by decide) (by omega) u8 x8_1 76 [.int .u8 76] (fun _ => True) (fun _ => False) rfl rfl ?aP (fun _ hk => hk.elim) ?aF ?aO ?aB ?aS ?aL ?_; (case aP => exact rfl); (case aB => exact ZB); (case aF => exact (fun _ _ => trivial)); (case aO => exact (ZR HO_8)); (case aS => exact (below_size ZB)); (case aL => have := LMc20.out; omega); intro v1065 w21 ho hb hg hat; rw [← Ny1064.out] at ho; have n0_ := Aside0.mk (hb); have n1_ := Aside0.mk (ho); clear HB HO_8; have HB := n0_; have HO1066 := n1_; clear n0_ n1_; clear ho hb hg hat))
           go_roundg k1
           case measure => have := HK1.out; omega
           case rel => exact ⟨(y1064), (wrap64 (x9_1 - 1)), (ZqS), H', ⟨by have := HK1.out; omega⟩, ⟨ZR HO1066⟩, ⟨ZB⟩⟩
          ·rw [if_neg c20] at H
           exact absurd H (by simp)
       ·rw [if_neg c12] at H
        exact absurd H (by simp)
      ·rw [if_neg c11] at H
       exact absurd H (by simp)
     ·rw [if_neg c10] at H
      have c10b0 : decide (0 ≤ x9_1) = false := decide_eq_false c10
      clear c10
      simp only [Option.some.injEq, Prod.mk.injEq] at H
      obtain ⟨rfl, rfl⟩ := H
      have hcv22 := own_string (P := Try.prog) Try.underlying22 Try.underlying5 Try.underlying9 (Kd.own_of_R HO_8.out)
      go_wp2
      go_ret2
      exact ⟨ZqR, ZB⟩
  ·replace c6 := Bool.eq_false_iff.mpr c6
   subst c6
   rw [if_neg (show ¬ (false = true) by decide)] at H
   simp only [Option.some.injEq, Prod.mk.injEq] at H
   obtain ⟨rfl, rfl⟩ := H
   go_enter Try.func33, Try.ntmps33
   go_wp2_with (first | ((with_reducible refine gate_callee (f := 126) rfl ?_); refine goesL_ (some 11) rfl rfl Try.func126 (by kernel_rfl) rfl #[.int .i64 a1, .int .i64 0, .int .i64 24] rfl ZA ?_; (with_reducible refine (spec_l01In.calls a1 0 24 true _ A3.out).mono ?_); rintro e w' ⟨rfl, ⟨nd, rfl⟩⟩; refine ⟨_, rfl, ?_⟩) | ((with_reducible refine gate_callee (f := 147) rfl ?_); refine goesL_ (some 16) rfl rfl Try.func147 (by kernel_rfl) rfl #[.string a0, .int .i64 a1] rfl ZA ?_; (with_reducible refine (spec_l09Heights.calls k a0 a1 t1051 false _ A5.out).mono ?_); rintro e w23 ⟨v1053, rfl, ho0, hb⟩; refine ⟨_, rfl, ?_⟩; have n0_ := Aside0.mk (Kd.R_lower ho0 (below_size ZB)); have n1_ := Aside0.mk (below_step ZB hb); clear HB; have HO1054 := n0_; have HB := n1_; clear n0_ n1_; (try clear hb); (try clear ho0)))
   go_ret2
   exact ⟨ZqR, ZB⟩
 ·replace c4 := Bool.eq_false_iff.mpr c4
  subst c4
  rw [if_neg (show ¬ (false = true) by decide)] at H
  simp only [Option.some.injEq, Prod.mk.injEq] at H
  obtain ⟨rfl, rfl⟩ := H
  go_enter Try.func33, Try.ntmps33
  go_wp2_with (first | ((with_reducible refine gate_callee (f := 126) rfl ?_); refine goesL_ (some 11) rfl rfl Try.func126 (by kernel_rfl) rfl #[.int .i64 a1, .int .i64 0, .int .i64 24] rfl ZA ?_; (with_reducible refine (spec_l01In.calls a1 0 24 false _ A3.out).mono ?_); rintro e w' ⟨rfl, ⟨nd, rfl⟩⟩; refine ⟨_, rfl, ?_⟩))
  go_ret2
  exact ⟨ZqR, ZB⟩

/-! ### spec_DrawBallotNumber: function 34 -/
def spec_DrawBallotNumber.f (k : Nat) (l0 : List Int) : Option (Int × Int) := (spec_l01From.f k l0).bind fun bt1067 => ((spec_l01Near.f bt1067.1 bt1067.2.1 bt1067.2.2 24).bind fun bt1071 => ((spec_l01Pick.f bt1067.1 bt1071.2.1 bt1071.2.2 (([4, 24] : List Int))).bind fun bt1077 => ((spec_l01Near.f bt1067.1 bt1077.2.1 bt1077.2.2 bt1077.1).bind fun bt1080 => (some (bt1071.1, bt1080.1)))))
theorem spec_DrawBallotNumber.mono : ∀ a0 k, LeO (spec_DrawBallotNumber.f k a0) (spec_DrawBallotNumber.f (k + 1) a0) := by
 intro a0 k
 unfold spec_DrawBallotNumber.f
 repeat' first
   | (with_reducible exact spec_l01From.mono _ _)
   | (with_reducible exact LeO.refl _)
   | (with_reducible exact LeO.none _)
   | (with_reducible refine LeO.ite ?_ ?_)
   | (with_reducible refine LeO.bind ?_ (fun _ => ?_))
   | exact spec_l01From.mono _ _
   | exact LeO.none _
   | refine LeO.ite ?_ ?_
   | refine LeO.bind ?_ (fun _ => ?_)
set_option maxHeartbeats 8000000 in
set_option maxRecDepth 100000 in
theorem spec_DrawBallotNumber.calls (k : Nat) (A0 : Option Addr) (c0 : Nat) (l0 : List Int) (r1 : Int) (r2 : Int) (w : World) (hr0 : Kd.C (Kd.int .u8) w A0 l0.length l0) (hc0 : l0.length ≤ c0) (h : spec_DrawBallotNumber.f k l0 = some (r1, r2)) :
  Calls Try.prog 34 #[.slice A0 l0.length c0] w fun e w' => e = .returned (.tuple #[.int .i64 r1, .int .i64 r2]) ∧ Below w.heap.size w w' := by
 have HR0 := Aside0.mk hr0
 have HC0 := Aside0.mk hc0
 clear hr0 hc0
 have HB := Aside0.mk (Below.refl w.heap.size w)
 have H : ((spec_l01From.f k l0).bind fun bt1067 => ((spec_l01Near.f bt1067.1 bt1067.2.1 bt1067.2.2 24).bind fun bt1071 => ((spec_l01Pick.f bt1067.1 bt1071.2.1 bt1071.2.2 (([4, 24] : List Int))).bind fun bt1077 => ((spec_l01Near.f bt1067.1 bt1077.2.1 bt1077.2.2 bt1077.1).bind fun bt1080 => (some (bt1071.1, bt1080.1)))))) = some (r1, r2) := h
 clear h
 replace H := Option.bind_eq_some_iff.mp H
 obtain ⟨⟨t1067, t1068, t1069⟩, A20, H⟩ := H
 try dsimp only at H
 have A2 := Aside0.mk A20
 clear A20
 replace H := Option.bind_eq_some_iff.mp H
 obtain ⟨⟨t1071, t1072, t1073⟩, A30, H⟩ := H
 try dsimp only at H
 have A3 := Aside0.mk A30
 clear A30
 obtain ⟨y1074, hy1074⟩ : ∃ y_ : List Int, y_ = (([4, 24] : List Int)) := ⟨_, rfl⟩
 replace H : ((spec_l01Pick.f t1067 t1072 t1073 y1074).bind fun bt1077 => ((spec_l01Near.f t1067 bt1077.2.1 bt1077.2.2 bt1077.1).bind fun bt1080 => (some (t1071, bt1080.1)))) = some (r1, r2) := by have hq_ := hy1074; exact ZqH
 have Ny1074 := Aside0.mk hy1074
 clear hy1074
 replace H := Option.bind_eq_some_iff.mp H
 obtain ⟨⟨t1077, t1078, t1079⟩, A40, H⟩ := H
 try dsimp only at H
 have A4 := Aside0.mk A40
 clear A40
 replace H := Option.bind_eq_some_iff.mp H
 obtain ⟨⟨t1080, t1081, t1082⟩, A50, H⟩ := H
 try dsimp only at H
 have A5 := Aside0.mk A50
 clear A50
 simp only [Option.some.injEq, Prod.mk.injEq] at H
 obtain ⟨rfl, rfl⟩ := H
 go_enter Try.func34, Try.ntmps34
 go_wp2_with (first | ((with_reducible refine gate_callee (f := 121) rfl ?_); refine goesL_ (some 6) rfl rfl Try.func121 (by kernel_rfl) rfl #[.slice A0 l0.length c0] rfl ZA ?_; (with_reducible refine (spec_l01From.calls k _ _ l0 t1067 t1068 t1069 w _ ?side1 ?side2 ?side3 A2.out).mono ?_); (case side1 => exact Zq31); (case side2 => exact HR0.out); (case side3 => exact HC0.out); rintro e w6 ⟨g1070, rfl, hi, hb, hb2⟩; refine ⟨_, rfl, ?_⟩; have n0_ := Aside0.mk (hb); have n1_ := Aside0.mk (hi); clear HB; have HB := n0_; have HI1070 := n1_; clear n0_ n1_; (try clear hb); (try clear hb2); (try clear hi)) | ((with_reducible refine gate_callee (f := 144) rfl ?_); refine goesL_ (some 8) rfl rfl Try.func144 (by kernel_rfl) rfl #[.pointer (some ⟨g1070, 0, none⟩), .int .i64 24] rfl ZA ?_; (with_reducible refine (spec_l01Near.calls g1070 t1067 t1068 t1069 24 t1071 t1072 t1073 w _ ?side1 ?side2 A3.out).mono ?_); (case side1 => exact Zq42); (case side2 => exact Zq43); rintro e w7 ⟨rfl, hi, hb, hk⟩; refine ⟨_, rfl, ?_⟩; have n0_ := Aside0.mk (hb); have n1_ := Aside0.mk (hi); clear HB HI1070; have HB := n0_; have HI1070 := n1_; clear n0_ n1_; (try clear hb); (try clear hk); (try clear hi)) | ((with_reducible refine gate_dst (N := 11) rfl ?_); refine Kd.R_lit (Kd.int .i64) _ 2 ?hg (N := 11) ?hd (xs := ([4, 24] : List Int)) (inner := [.int .i64 4, .int .i64 24]) (ok := fun _ => True) (okp := fun _ => True) ?hr ?hp (fun _ hk => hk) trivial (Below.refl _ _) (Nat.le_refl _) (by simp) ?_; (case hd => rfl); (case hg => rfl); (case hr => exact ZqT); (case hp => exact (Reps.one (show Kd.M (Kd.int .i64) _ _ _ 4 [.int .i64 4] from rfl) (Reps.one (show Kd.M (Kd.int .i64) _ _ _ 24 [.int .i64 24] from rfl) (Reps.none _ _)))); intro v1075 w8 ho9 hb hg_ hnew_; clear hg_ hnew_; (first | rw [← Ny1074.out] at ho9 | (simp only [Int.reduceToNat] at ho9; rw [← Ny1074.out] at ho9)); have n0_ := Aside0.mk (Kd.R_lower ho9 (below_size (by exact Zq43))); have n1_ := Aside0.mk (IsS176.below (by exact Zq42) hb); have n2_ := Aside0.mk (below_step (by exact Zq43) hb); clear HI1070 HB; have HO1076 := n0_; have HI1070 := n1_; have HB := n2_; clear n0_ n1_ n2_; clear hb ho9; obtain ⟨Ao10, co10, eo10⟩ := Kd.R_slice HO1076.out; subst eo10) | ((with_reducible refine gate_callee (f := 136) rfl ?_); refine goesL_ (some 12) rfl rfl Try.func136 (by kernel_rfl) rfl #[.pointer (some ⟨g1070, 0, none⟩), .slice Ao10 y1074.length co10] rfl ZA ?_; (with_reducible refine (spec_l01Pick.calls g1070 t1067 t1072 t1073 _ _ y1074 t1077 t1078 t1079 w _ ?side1 ?side2 ?side3 ?side4 ?side5 A4.out).mono ?_); (case side1 => exact Zq42); (case side2 => exact Zq43); (case side3 => exact ZqC ((Kd.R_reads' HO1076.out).2.2)); (case side4 => exact (Kd.R_reads' HO1076.out).2.1); (case side5 => exact far_slice (IsS176.own_ne HI1070.out HO1076.out (by decide))); rintro e w11 ⟨rfl, hi, hb, hk⟩; refine ⟨_, rfl, ?_⟩; have n0_ := Aside0.mk (Kd.R_mono (Kd.R_keep (IsS176.apart (show IsS176 w _ g1070 t1067 t1072 t1073 from by exact Zq42) (ZR HO1076) (by decide)) hk (fun _ h => h.2)) (fun _ h => h.1)); have n1_ := Aside0.mk (hb); have n2_ := Aside0.mk (hi); clear HO1076 HB HI1070; have HO1076 := n0_; have HB := n1_; have HI1070 := n2_; clear n0_ n1_ n2_; (try clear hb); (try clear hk); (try clear hi)) | ((with_reducible refine gate_callee (f := 144) rfl ?_); refine goesL_ (some 13) rfl rfl Try.func144 (by kernel_rfl) rfl #[.pointer (some ⟨g1070, 0, none⟩), .int .i64 t1077] rfl ZA ?_; (with_reducible refine (spec_l01Near.calls g1070 t1067 t1078 t1079 t1077 t1080 t1081 t1082 w _ ?side1 ?side2 A5.out).mono ?_); (case side1 => exact Zq42); (case side2 => exact Zq43); rintro e w12 ⟨rfl, hi, hb, hk⟩; refine ⟨_, rfl, ?_⟩; have n0_ := Aside0.mk (Kd.R_mono (Kd.R_keep (IsS176.apart (show IsS176 w _ g1070 t1067 t1078 t1079 from by exact Zq42) (ZR HO1076) (by decide)) hk (fun _ h => h.2)) (fun _ h => h.1)); have n1_ := Aside0.mk (hb); have n2_ := Aside0.mk (hi); clear HO1076 HB HI1070; have HO1076 := n0_; have HB := n1_; have HI1070 := n2_; clear n0_ n1_ n2_; (try clear hb); (try clear hk); (try clear hi)))
 go_ret2
 exact ⟨ZqR, by exact Zq43⟩

/-! ### impl_BallotNumber: function 35 -/
def impl_BallotNumber.f (k : Nat) (a0 : Int) (a1 : Int) : Option (Int × Int) := (impl_areCounted.f (([a0, a1] : List Int))).bind fun t1086 => (if t1086 = true then ((impl_countPaths.f k a0 0 a1 48 false).bind fun t1087 => (some (t1087, 0))) else (some (0, 2)))
theorem impl_BallotNumber.mono : ∀ a0 a1 k, LeO (impl_BallotNumber.f k a0 a1) (impl_BallotNumber.f (k + 1) a0 a1) := by
 intro a0 a1 k
 unfold impl_BallotNumber.f
 repeat' first
   | (with_reducible exact impl_countPaths.mono _ _ _ _ _ _)
   | (with_reducible exact LeO.refl _)
   | (with_reducible exact LeO.none _)
   | (with_reducible refine LeO.ite ?_ ?_)
   | (with_reducible refine LeO.bind ?_ (fun _ => ?_))
   | exact impl_countPaths.mono _ _ _ _ _ _
   | exact LeO.none _
   | refine LeO.ite ?_ ?_
   | refine LeO.bind ?_ (fun _ => ?_)
set_option maxHeartbeats 8000000 in
set_option maxRecDepth 100000 in
theorem impl_BallotNumber.calls (k : Nat) (a0 : Int) (a1 : Int) (r1 : Int) (r2 : Int) (w : World) (h : impl_BallotNumber.f k a0 a1 = some (r1, r2)) :
  Calls Try.prog 35 #[.int .i64 a0, .int .i64 a1] w fun e w' => e = .returned (.tuple #[.int .i64 r1, .int .i64 r2]) ∧ Below w.heap.size w w' := by
 have HB := Aside0.mk (Below.refl w.heap.size w)
 have H : ((impl_areCounted.f (([a0, a1] : List Int))).bind fun t1086 => (if t1086 = true then ((impl_countPaths.f k a0 0 a1 48 false).bind fun t1087 => (some (t1087, 0))) else (some (0, 2)))) = some (r1, r2) := h
 clear h
 obtain ⟨y1083, hy1083⟩ : ∃ y_ : List Int, y_ = (([a0, a1] : List Int)) := ⟨_, rfl⟩
 replace H : ((impl_areCounted.f y1083).bind fun t1086 => (if t1086 = true then ((impl_countPaths.f k a0 0 a1 48 false).bind fun t1087 => (some (t1087, 0))) else (some (0, 2)))) = some (r1, r2) := by have hq_ := hy1083; exact ZqH
 have Ny1083 := Aside0.mk hy1083
 clear hy1083
 replace H := Option.bind_eq_some_iff.mp H
 obtain ⟨t1086, A30, H⟩ := H
 try dsimp only at H
 have A3 := Aside0.mk A30
 clear A30
 by_cases c4 : t1086 = true
 ·subst c4
  rw [if_pos rfl] at H
  replace H := Option.bind_eq_some_iff.mp H
  obtain ⟨t1087, A50, H⟩ := H
  try dsimp only at H
  have A5 := Aside0.mk A50
  clear A50
  simp only [Option.some.injEq, Prod.mk.injEq] at H
  obtain ⟨rfl, rfl⟩ := H
  go_enter Try.func35, Try.ntmps35
  go_wp2_with (first | ((with_reducible refine gate_dst (N := 8) rfl ?_); refine Kd.R_lit (Kd.int .i64) _ 2 ?hg (N := 8) ?hd (xs := ([a0, a1] : List Int)) (inner := [.int .i64 a0, .int .i64 a1]) (ok := fun _ => True) (okp := fun _ => True) ?hr ?hp (fun _ hk => hk) trivial (Below.refl _ _) (Nat.le_refl _) (by simp) ?_; (case hd => rfl); (case hg => rfl); (case hr => exact ZqT); (case hp => exact (Reps.one (show Kd.M (Kd.int .i64) _ _ _ a0 [.int .i64 a0] from rfl) (Reps.one (show Kd.M (Kd.int .i64) _ _ _ a1 [.int .i64 a1] from rfl) (Reps.none _ _)))); intro v1084 w6 ho7 hb hg_ hnew_; clear hg_ hnew_; (first | rw [← Ny1083.out] at ho7 | (simp only [Int.reduceToNat] at ho7; rw [← Ny1083.out] at ho7)); have n0_ := Aside0.mk (Kd.R_lower ho7 (below_size ZB)); have n1_ := Aside0.mk (below_step ZB hb); clear HB; have HO1085 := n0_; have HB := n1_; clear n0_ n1_; clear hb ho7; obtain ⟨Ao8, co8, eo8⟩ := Kd.R_slice HO1085.out; subst eo8) | ((with_reducible refine gate_callee (f := 137) rfl ?_); refine goesL_ (some 9) rfl rfl Try.func137 (by kernel_rfl) rfl #[.slice Ao8 y1083.length co8] rfl ZA ?_; (with_reducible refine (impl_areCounted.calls _ _ y1083 true _ ?side1 ?side2 A3.out).mono ?_); (case side1 => exact ZqC ((Kd.R_reads' HO1085.out).2.2)); (case side2 => exact (Kd.R_reads' HO1085.out).2.1); rintro e w9 ⟨rfl, hb⟩; refine ⟨_, rfl, ?_⟩; have n0_ := Aside0.mk (Kd.R_below (ZR HO1085) hb); have n1_ := Aside0.mk (below_step ZB hb); clear HO1085 HB; have HO1085 := n0_; have HB := n1_; clear n0_ n1_; (try clear hb)) | ((with_reducible refine gate_callee (f := 138) rfl ?_); refine goesL_ (some 13) rfl rfl Try.func138 (by kernel_rfl) rfl #[.int .i64 a0, .int .i64 0, .int .i64 a1, .int .i64 48, .bool false] rfl ZA ?_; (with_reducible refine (impl_countPaths.calls k a0 0 a1 48 false t1087 _ A5.out).mono ?_); rintro e w10 ⟨rfl, hb⟩; refine ⟨_, rfl, ?_⟩; have n0_ := Aside0.mk (Kd.R_below (ZR HO1085) hb); have n1_ := Aside0.mk (below_step ZB hb); clear HO1085 HB; have HO1085 := n0_; have HB := n1_; clear n0_ n1_; (try clear hb)))
  go_ret2
  exact ⟨ZqR, ZB⟩
 ·replace c4 := Bool.eq_false_iff.mpr c4
  subst c4
  rw [if_neg (show ¬ (false = true) by decide)] at H
  simp only [Option.some.injEq, Prod.mk.injEq] at H
  obtain ⟨rfl, rfl⟩ := H
  go_enter Try.func35, Try.ntmps35
  go_wp2_with (first | ((with_reducible refine gate_dst (N := 8) rfl ?_); refine Kd.R_lit (Kd.int .i64) _ 2 ?hg (N := 8) ?hd (xs := ([a0, a1] : List Int)) (inner := [.int .i64 a0, .int .i64 a1]) (ok := fun _ => True) (okp := fun _ => True) ?hr ?hp (fun _ hk => hk) trivial (Below.refl _ _) (Nat.le_refl _) (by simp) ?_; (case hd => rfl); (case hg => rfl); (case hr => exact ZqT); (case hp => exact (Reps.one (show Kd.M (Kd.int .i64) _ _ _ a0 [.int .i64 a0] from rfl) (Reps.one (show Kd.M (Kd.int .i64) _ _ _ a1 [.int .i64 a1] from rfl) (Reps.none _ _)))); intro v1084 w11 ho12 hb hg_ hnew_; clear hg_ hnew_; (first | rw [← Ny1083.out] at ho12 | (simp only [Int.reduceToNat] at ho12; rw [← Ny1083.out] at ho12)); have n0_ := Aside0.mk (Kd.R_lower ho12 (below_size ZB)); have n1_ := Aside0.mk (below_step ZB hb); clear HB; have HO1085 := n0_; have HB := n1_; clear n0_ n1_; clear hb ho12; obtain ⟨Ao13, co13, eo13⟩ := Kd.R_slice HO1085.out; subst eo13) | ((with_reducible refine gate_callee (f := 137) rfl ?_); refine goesL_ (some 9) rfl rfl Try.func137 (by kernel_rfl) rfl #[.slice Ao13 y1083.length co13] rfl ZA ?_; (with_reducible refine (impl_areCounted.calls _ _ y1083 false _ ?side1 ?side2 A3.out).mono ?_); (case side1 => exact ZqC ((Kd.R_reads' HO1085.out).2.2)); (case side2 => exact (Kd.R_reads' HO1085.out).2.1); rintro e w14 ⟨rfl, hb⟩; refine ⟨_, rfl, ?_⟩; have n0_ := Aside0.mk (Kd.R_below (ZR HO1085) hb); have n1_ := Aside0.mk (below_step ZB hb); clear HO1085 HB; have HO1085 := n0_; have HB := n1_; clear n0_ n1_; (try clear hb)))
  go_ret2
  exact ⟨ZqR, ZB⟩

/-! ### spec_BallotNumber: function 36 -/
def spec_BallotNumber.f (k : Nat) (a0 : Int) (a1 : Int) : Option (Int × Int) := (spec_l01In.f a0 0 24).bind fun t1088 => (if t1088 = true then ((spec_l01In.f a1 0 24).bind fun t1089 => (if t1089 = true then ((spec_l09Count.f k a0 0 a1 24 true).bind fun t1090 => (some (t1090, 0))) else (some (0, 2)))) else (some (0, 2)))
theorem spec_BallotNumber.mono : ∀ a0 a1 k, LeO (spec_BallotNumber.f k a0 a1) (spec_BallotNumber.f (k + 1) a0 a1) := by
 intro a0 a1 k
 unfold spec_BallotNumber.f
 repeat' first
   | (with_reducible exact spec_l09Count.mono _ _ _ _ _ _)
   | (with_reducible exact LeO.refl _)
   | (with_reducible exact LeO.none _)
   | (with_reducible refine LeO.ite ?_ ?_)
   | (with_reducible refine LeO.bind ?_ (fun _ => ?_))
   | exact spec_l09Count.mono _ _ _ _ _ _
   | exact LeO.none _
   | refine LeO.ite ?_ ?_
   | refine LeO.bind ?_ (fun _ => ?_)
set_option maxHeartbeats 8000000 in
set_option maxRecDepth 100000 in
theorem spec_BallotNumber.calls (k : Nat) (a0 : Int) (a1 : Int) (r1 : Int) (r2 : Int) (w : World) (h : spec_BallotNumber.f k a0 a1 = some (r1, r2)) :
  Calls Try.prog 36 #[.int .i64 a0, .int .i64 a1] w fun e w' => e = .returned (.tuple #[.int .i64 r1, .int .i64 r2]) ∧ Below w.heap.size w w' := by
 have HB := Aside0.mk (Below.refl w.heap.size w)
 have H : ((spec_l01In.f a0 0 24).bind fun t1088 => (if t1088 = true then ((spec_l01In.f a1 0 24).bind fun t1089 => (if t1089 = true then ((spec_l09Count.f k a0 0 a1 24 true).bind fun t1090 => (some (t1090, 0))) else (some (0, 2)))) else (some (0, 2)))) = some (r1, r2) := h
 clear h
 replace H := Option.bind_eq_some_iff.mp H
 obtain ⟨t1088, A30, H⟩ := H
 try dsimp only at H
 have A3 := Aside0.mk A30
 clear A30
 by_cases c4 : t1088 = true
 ·subst c4
  rw [if_pos rfl] at H
  replace H := Option.bind_eq_some_iff.mp H
  obtain ⟨t1089, A50, H⟩ := H
  try dsimp only at H
  have A5 := Aside0.mk A50
  clear A50
  by_cases c6 : t1089 = true
  ·subst c6
   rw [if_pos rfl] at H
   replace H := Option.bind_eq_some_iff.mp H
   obtain ⟨t1090, A70, H⟩ := H
   try dsimp only at H
   have A7 := Aside0.mk A70
   clear A70
   simp only [Option.some.injEq, Prod.mk.injEq] at H
   obtain ⟨rfl, rfl⟩ := H
   go_enter Try.func36, Try.ntmps36
   go_wp2_with (first | ((with_reducible refine gate_callee (f := 126) rfl ?_); refine goesL_ (some 7) rfl rfl Try.func126 (by kernel_rfl) rfl #[.int .i64 a0, .int .i64 0, .int .i64 24] rfl ZA ?_; (with_reducible refine (spec_l01In.calls a0 0 24 true _ A3.out).mono ?_); rintro e w' ⟨rfl, ⟨nd, rfl⟩⟩; refine ⟨_, rfl, ?_⟩) | (go_at_call 126; (with_reducible refine (spec_l01In.calls a1 0 24 true _ A5.out).mono ?_); rintro e w' ⟨rfl, ⟨nd, rfl⟩⟩) | ((with_reducible refine gate_callee (f := 141) rfl ?_); refine goesL_ (some 16) rfl rfl Try.func141 (by kernel_rfl) rfl #[.int .i64 a0, .int .i64 0, .int .i64 a1, .int .i64 24, .bool true] rfl ZA ?_; (with_reducible refine (spec_l09Count.calls k a0 0 a1 24 true t1090 _ A7.out).mono ?_); rintro e w8 ⟨rfl, hb⟩; refine ⟨_, rfl, ?_⟩; have n0_ := Aside0.mk (below_step ZB hb); clear HB; have HB := n0_; clear n0_; (try clear hb)))
   go_ret2
   exact ⟨ZqR, ZB⟩
  ·replace c6 := Bool.eq_false_iff.mpr c6
   subst c6
   rw [if_neg (show ¬ (false = true) by decide)] at H
   simp only [Option.some.injEq, Prod.mk.injEq] at H
   obtain ⟨rfl, rfl⟩ := H
   go_enter Try.func36, Try.ntmps36
   go_wp2_with (first | ((with_reducible refine gate_callee (f := 126) rfl ?_); refine goesL_ (some 7) rfl rfl Try.func126 (by kernel_rfl) rfl #[.int .i64 a0, .int .i64 0, .int .i64 24] rfl ZA ?_; (with_reducible refine (spec_l01In.calls a0 0 24 true _ A3.out).mono ?_); rintro e w' ⟨rfl, ⟨nd, rfl⟩⟩; refine ⟨_, rfl, ?_⟩) | (go_at_call 126; (with_reducible refine (spec_l01In.calls a1 0 24 false _ A5.out).mono ?_); rintro e w' ⟨rfl, ⟨nd, rfl⟩⟩))
   go_ret2
   exact ⟨ZqR, ZB⟩
 ·replace c4 := Bool.eq_false_iff.mpr c4
  subst c4
  rw [if_neg (show ¬ (false = true) by decide)] at H
  simp only [Option.some.injEq, Prod.mk.injEq] at H
  obtain ⟨rfl, rfl⟩ := H
  go_enter Try.func36, Try.ntmps36
  go_wp2_with (first | ((with_reducible refine gate_callee (f := 126) rfl ?_); refine goesL_ (some 7) rfl rfl Try.func126 (by kernel_rfl) rfl #[.int .i64 a0, .int .i64 0, .int .i64 24] rfl ZA ?_; (with_reducible refine (spec_l01In.calls a0 0 24 false _ A3.out).mono ?_); rintro e w' ⟨rfl, ⟨nd, rfl⟩⟩; refine ⟨_, rfl, ?_⟩))
  go_ret2
  exact ⟨ZqR, ZB⟩

end Go.Proofs.Ytlodpobegdbhaaa.X
