/- Contracts of functions that the law reaches, printed by a program of this session; Lean checks them. -/
import Derived.Test.YtlodpobegdbhaaaCPathCountsX0
import Derived.Test.YtlodpobegdbhaaaCPathCountsX1
import Derived.Test.YtlodpobegdbhaaaCPathCountsX22
import Derived.Test.YtlodpobegdbhaaaCPathCountsX23
import Derived.Test.YtlodpobegdbhaaaCPathCountsX25
import Derived.Test.YtlodpobegdbhaaaCPathCountsX28
import Derived.Test.YtlodpobegdbhaaaCPathCountsX3
import Derived.Test.YtlodpobegdbhaaaCPathCountsX9
import Derived.Test.YtlodpobegdbhaaaCPathCountsXZ
namespace Go.Proofs.Ytlodpobegdbhaaa.X
open Go.RowKit Go.Proofs.YtlodpobegdbhaaaW.PrintWords Go.Proofs.YtlodpobegdbhaaaW.PrintLast Go.Proofs.YtlodpobegdbhaaaW.PrintMore
attribute [local go_sem] max2_int min2_int max_two min_two max_three min_three max_four min_four   -- for this text's walks alone
set_option linter.unusedVariables false
set_option linter.unusedSimpArgs false

/-! ### spec_l09Code: function 151 -/
def spec_l09Code.l0 : Nat → List Int → Int → Int → List Int → List Int → Option (Int)
 | 0, _, _, _, _, _ => none
 | k + 1, x2, x7, x1142000, x1142001, x1142002 => if x7 < (x2.length : Int) then (if 0 ≤ x7 then ((spec_l01In.f (rd x2 x7) 0 (wrap64 ((x1142001.length : Int) - 1))).bind fun t1145 => (if t1145 = true then (spec_l09Code.l0 k x2 (wrap64 (x7 + 1)) x1142000 x1142001 x1142002) else (some 2))) else (none)) else (some 0)
def spec_l09Code.f (k : Nat) (a0_0 : Int) (l0_1 : List Int) (l0_2 : List Int) (a1 : Int) (l2 : List Int) : Option (Int) := (spec_l03Is.f k a0_0 l0_1 l0_2).bind fun t1142 => (if t1142 = true then ((spec_l01In.f a1 0 24).bind fun t1143 => (if t1143 = true then (spec_l09Code.l0 k l2 0 a0_0 l0_1 l0_2) else (some 2))) else (some 1))
theorem spec_l09Code.mono_l : ∀ k, (∀ y0 y1 y2 y3 y4, LeO (spec_l09Code.l0 k y0 y1 y2 y3 y4) (spec_l09Code.l0 (k + 1) y0 y1 y2 y3 y4))
 | 0 => fun _ _ _ _ _ r h => by simp [spec_l09Code.l0] at h
 | k + 1 => by
  have ih0 := spec_l09Code.mono_l k
  ·intro y0 y1 y2 y3 y4
   unfold spec_l09Code.l0
   repeat' first
   | (with_reducible exact ih0 _ _ _ _ _)
   | (with_reducible exact spec_l03Is.mono _ _ _ _)
   | (with_reducible exact LeO.refl _)
   | (with_reducible exact LeO.none _)
   | (with_reducible refine LeO.ite ?_ ?_)
   | (with_reducible refine LeO.bind ?_ (fun _ => ?_))
   | exact ih0 _ _ _ _ _
   | exact spec_l03Is.mono _ _ _ _
   | exact LeO.none _
   | refine LeO.ite ?_ ?_
   | refine LeO.bind ?_ (fun _ => ?_)
theorem spec_l09Code.mono : ∀ a0 a1 a2 a3 a4 k, LeO (spec_l09Code.f k a0 a1 a2 a3 a4) (spec_l09Code.f (k + 1) a0 a1 a2 a3 a4) := by
 intro a0 a1 a2 a3 a4 k
 have ih0 := spec_l09Code.mono_l k
 unfold spec_l09Code.f
 repeat' first
   | (with_reducible exact ih0 _ _ _ _ _)
   | (with_reducible exact spec_l03Is.mono _ _ _ _)
   | (with_reducible exact LeO.refl _)
   | (with_reducible exact LeO.none _)
   | (with_reducible refine LeO.ite ?_ ?_)
   | (with_reducible refine LeO.bind ?_ (fun _ => ?_))
   | exact ih0 _ _ _ _ _
   | exact spec_l03Is.mono _ _ _ _
   | exact LeO.none _
   | refine LeO.ite ?_ ?_
   | refine LeO.bind ?_ (fun _ => ?_)
set_option maxHeartbeats 8000000 in
set_option maxRecDepth 100000 in
theorem spec_l09Code.calls (k : Nat) (a0_0 : Int) (A0_1 : Option Addr) (c0_1 : Nat) (l0_1 : List Int) (A0_2 : Option Addr) (c0_2 : Nat) (l0_2 : List Int) (a1 : Int) (A2 : Option Addr) (c2 : Nat) (l2 : List Int) (r : Int) (w : World) (hr0_1 : Kd.C (Kd.int .i64) w A0_1 l0_1.length l0_1) (hc0_1 : l0_1.length ≤ c0_1) (hr0_2 : Kd.C (Kd.int .i64) w A0_2 l0_2.length l0_2) (hc0_2 : l0_2.length ≤ c0_2) (hr2 : Kd.C (Kd.int .i64) w A2 l2.length l2) (hc2 : l2.length ≤ c2) (h : spec_l09Code.f k a0_0 l0_1 l0_2 a1 l2 = some r) :
  Calls Try.prog 151 #[.agg #[.int .i64 a0_0, .slice A0_1 l0_1.length c0_1, .slice A0_2 l0_2.length c0_2], .int .i64 a1, .slice A2 l2.length c2] w fun e w' => e = .returned (.int .i64 r) ∧ Below w.heap.size w w' := by
 have hu26 := Try.underlying26
 have HR0_1 := Aside0.mk hr0_1
 have HC0_1 := Aside0.mk hc0_1
 clear hr0_1 hc0_1
 have HR0_2 := Aside0.mk hr0_2
 have HC0_2 := Aside0.mk hc0_2
 clear hr0_2 hc0_2
 have HR2 := Aside0.mk hr2
 have HC2 := Aside0.mk hc2
 clear hr2 hc2
 have HB := Aside0.mk (Below.refl w.heap.size w)
 have H : ((spec_l03Is.f k a0_0 l0_1 l0_2).bind fun t1142 => (if t1142 = true then ((spec_l01In.f a1 0 24).bind fun t1143 => (if t1143 = true then (spec_l09Code.l0 k l2 0 a0_0 l0_1 l0_2) else (some 2))) else (some 1))) = some r := h
 clear h
 replace H := Option.bind_eq_some_iff.mp H
 obtain ⟨t1142, A40, H⟩ := H
 try dsimp only at H
 have A4 := Aside0.mk A40
 clear A40
 by_cases c5 : t1142 = true
 ·subst c5
  rw [if_pos rfl] at H
  replace H := Option.bind_eq_some_iff.mp H
  obtain ⟨t1143, A60, H⟩ := H
  try dsimp only at H
  have A6 := Aside0.mk A60
  clear A60
  by_cases c7 : t1143 = true
  ·subst c7
   rw [if_pos rfl] at H
   have H' := Aside0.mk H
   clear H
   go_enter Try.func151, Try.ntmps151
   go_wp2_with (first | ((with_reducible refine gate_dst (N := 3) rfl ?_); refine box_event ?hg (N := 3) ?hd (cs := #[.int .i64 a0_0, .slice A0_1 l0_1.length c0_1, .slice A0_2 l0_2.length c0_2]) (t := 26) ?hr ?_; (case hd => rfl); (case hg => rfl); (case hr => exact ZqT); intro gb1141 hg w8 hbox hb; have n0_ := Aside0.mk (below_step ZB hb); have n1_ := Aside0.mk (hbox); have n2_ := Aside0.mk ((ZG hg : w.heap.size ≤ gb1141)); have n3_ := Aside0.mk ((ZG hg : w.heap.size ≤ gb1141)); clear HB; have HB := n0_; have BK1141 := n1_; have GW1141 := n2_; have GE1141 := n3_; clear n0_ n1_ n2_ n3_; clear hb hbox hg; obtain ⟨hcz9_0, hcz9_1, hcz9_2, hfz9_0, hfz9_1, hfz9_2⟩ := ZD3 BK1141) | (go_at_call 154; (with_reducible refine (spec_l03Is.calls k a0_0 _ _ l0_1 _ _ l0_2 true _ ?side1 ?side2 ?side3 ?side4 A4.out).mono ?_); (case side1 => exact ZC HR0_1); (case side2 => exact HC0_1.out); (case side3 => exact ZC HR0_2); (case side4 => exact HC0_2.out); rintro e w10 ⟨rfl, hb⟩; have n0_ := ZL BK1141 hb; have n1_ := Aside0.mk (below_step ZB hb); clear BK1141 HB; have BK1141 := n0_; have HB := n1_; clear n0_ n1_; (try clear hb)) | (go_at_call 126; (with_reducible refine (spec_l01In.calls a1 0 24 true _ A6.out).mono ?_); rintro e w' ⟨rfl, ⟨nd, rfl⟩⟩; (try first | exact ⟨rfl, _, World.drewN_drewN _ _ _⟩ | exact ⟨rfl, _, Eq.trans (World.drewN_drewN _ _ _) (congrArg (World.drewN _) (Nat.add_assoc _ _ _))⟩)))
   repeat (go_quiet (first | ((with_reducible refine gate_dst (N := 3) rfl ?_); refine box_event ?hg (N := 3) ?hd (cs := #[.int .i64 a0_0, .slice A0_1 l0_1.length c0_1, .slice A0_2 l0_2.length c0_2]) (t := 26) ?hr ?_; (case hd => rfl); (case hg => rfl); (case hr => exact ZqT); intro gb1141 hg w8 hbox hb; have n0_ := Aside0.mk (below_step ZB hb); have n1_ := Aside0.mk (hbox); have n2_ := Aside0.mk ((ZG hg : w.heap.size ≤ gb1141)); have n3_ := Aside0.mk ((ZG hg : w.heap.size ≤ gb1141)); clear HB; have HB := n0_; have BK1141 := n1_; have GW1141 := n2_; have GE1141 := n3_; clear n0_ n1_ n2_ n3_; clear hb hbox hg; obtain ⟨hcz9_0, hcz9_1, hcz9_2, hfz9_0, hfz9_1, hfz9_2⟩ := ZD3 BK1141) | (go_at_call 154; (with_reducible refine (spec_l03Is.calls k a0_0 _ _ l0_1 _ _ l0_2 true _ ?side1 ?side2 ?side3 ?side4 A4.out).mono ?_); (case side1 => exact ZC HR0_1); (case side2 => exact HC0_1.out); (case side3 => exact ZC HR0_2); (case side4 => exact HC0_2.out); rintro e w10 ⟨rfl, hb⟩; have n0_ := ZL BK1141 hb; have n1_ := Aside0.mk (below_step ZB hb); clear BK1141 HB; have BK1141 := n0_; have HB := n1_; clear n0_ n1_; (try clear hb)) | (go_at_call 126; (with_reducible refine (spec_l01In.calls a1 0 24 true _ A6.out).mono ?_); rintro e w' ⟨rfl, ⟨nd, rfl⟩⟩; (try first | exact ⟨rfl, _, World.drewN_drewN _ _ _⟩ | exact ⟨rfl, _, Eq.trans (World.drewN_drewN _ _ _) (congrArg (World.drewN _) (Nat.add_assoc _ _ _))⟩))); try go_wp2_with (first | ((with_reducible refine gate_dst (N := 3) rfl ?_); refine box_event ?hg (N := 3) ?hd (cs := #[.int .i64 a0_0, .slice A0_1 l0_1.length c0_1, .slice A0_2 l0_2.length c0_2]) (t := 26) ?hr ?_; (case hd => rfl); (case hg => rfl); (case hr => exact ZqT); intro gb1141 hg w8 hbox hb; have n0_ := Aside0.mk (below_step ZB hb); have n1_ := Aside0.mk (hbox); have n2_ := Aside0.mk ((ZG hg : w.heap.size ≤ gb1141)); have n3_ := Aside0.mk ((ZG hg : w.heap.size ≤ gb1141)); clear HB; have HB := n0_; have BK1141 := n1_; have GW1141 := n2_; have GE1141 := n3_; clear n0_ n1_ n2_ n3_; clear hb hbox hg; obtain ⟨hcz9_0, hcz9_1, hcz9_2, hfz9_0, hfz9_1, hfz9_2⟩ := ZD3 BK1141) | (go_at_call 154; (with_reducible refine (spec_l03Is.calls k a0_0 _ _ l0_1 _ _ l0_2 true _ ?side1 ?side2 ?side3 ?side4 A4.out).mono ?_); (case side1 => exact ZC HR0_1); (case side2 => exact HC0_1.out); (case side3 => exact ZC HR0_2); (case side4 => exact HC0_2.out); rintro e w10 ⟨rfl, hb⟩; have n0_ := ZL BK1141 hb; have n1_ := Aside0.mk (below_step ZB hb); clear BK1141 HB; have BK1141 := n0_; have HB := n1_; clear n0_ n1_; (try clear hb)) | (go_at_call 126; (with_reducible refine (spec_l01In.calls a1 0 24 true _ A6.out).mono ?_); rintro e w' ⟨rfl, ⟨nd, rfl⟩⟩; (try first | exact ⟨rfl, _, World.drewN_drewN _ _ _⟩ | exact ⟨rfl, _, Eq.trans (World.drewN_drewN _ _ _) (congrArg (World.drewN _) (Nat.add_assoc _ _ _))⟩))))
   go_loopg [7] k (fun kq v7 w' => ∃ (x7_1 : Int), v7 = .int .i64 x7_1 ∧ Aside0 (spec_l09Code.l0 kq l2 x7_1 a0_0 l0_1 l0_2 = some r) ∧ Aside0 (kq ≤ k) ∧ Aside0 (w'.heap[gb1141]? = some (.cells #[.int .i64 a0_0, (.slice A0_1 l0_1.length c0_1), (.slice A0_2 l0_2.length c0_2)] 26 (0, 0))) ∧ Aside0 (Below w.heap.size w w'))
   case atStart => exact ⟨(0), (ZqS), H', ⟨Nat.le_refl _⟩, ⟨ZK BK1141⟩, ⟨ZB⟩⟩
   case round =>
    clear H'
    try clear c1
    try clear c2
    try clear p2
    try clear c5
    try clear c7
    try clear hcz9_0
    try clear hcz9_1
    try clear hcz9_2
    try clear hfz9_0
    try clear hfz9_1
    try clear hfz9_2
    obtain ⟨x7_1, rfl, HA, HK1, BK1141, HB⟩ := hrel
    cases gk with
    | zero => exact absurd HA.out (by simp [spec_l09Code.l0])
    | succ k1 =>
     have H := HA.out
     clear HA
     simp only [spec_l09Code.l0] at H
     by_cases c11 : x7_1 < (l2.length : Int)
     ·rw [if_pos c11] at H
      have c11b0 : decide (x7_1 < (l2.length : Int)) = true := decide_eq_true c11
      clear c11
      by_cases c12 : 0 ≤ x7_1
      ·rw [if_pos c12] at H
       have c12b0 : decide (0 ≤ x7_1) = true := decide_eq_true c12
       clear c12
       replace H := Option.bind_eq_some_iff.mp H
       obtain ⟨t1145, A130, H⟩ := H
       try dsimp only at H
       have A13 := Aside0.mk A130
       clear A130
       by_cases c14 : t1145 = true
       ·subst c14
        rw [if_pos rfl] at H
        have H' := Aside0.mk H
        clear H
        have p1144 : 0 ≤ (x7_1 : Int) := of_decide_eq_true (by first | (with_reducible assumption) | assumption)
        have q1144 : x7_1 < (l2.length : Int) := of_decide_eq_true (by first | (with_reducible assumption) | assumption)
        obtain ⟨ad1144, e1144, hx1144_0⟩ := Kd.at_int HR2.out x7_1 p1144 q1144
        cases e1144
        replace hx1144_0 := (HB.out.cell (World.block_lt_of_cell? w _ hx1144_0)).trans hx1144_0
        replace p1144 := eq_true p1144
        replace q1144 := eq_true q1144
        obtain ⟨hcz15_0, hcz15_1, hcz15_2, hfz15_0, hfz15_1, hfz15_2⟩ := ZD3 BK1141
        go_wp2_with (first | (go_at_call 126; (with_reducible refine (spec_l01In.calls (rd l2 x7_1) 0 (wrap64 ((l0_1.length : Int) - 1)) true _ A13.out).mono ?_); rintro e w' ⟨rfl, ⟨nd, rfl⟩⟩; (try first | exact ⟨rfl, _, World.drewN_drewN _ _ _⟩ | exact ⟨rfl, _, Eq.trans (World.drewN_drewN _ _ _) (congrArg (World.drewN _) (Nat.add_assoc _ _ _))⟩)))
        repeat (go_quiet (first | (go_at_call 126; (with_reducible refine (spec_l01In.calls (rd l2 x7_1) 0 (wrap64 ((l0_1.length : Int) - 1)) true _ A13.out).mono ?_); rintro e w' ⟨rfl, ⟨nd, rfl⟩⟩; (try first | exact ⟨rfl, _, World.drewN_drewN _ _ _⟩ | exact ⟨rfl, _, Eq.trans (World.drewN_drewN _ _ _) (congrArg (World.drewN _) (Nat.add_assoc _ _ _))⟩))); try go_wp2_with (first | (go_at_call 126; (with_reducible refine (spec_l01In.calls (rd l2 x7_1) 0 (wrap64 ((l0_1.length : Int) - 1)) true _ A13.out).mono ?_); rintro e w' ⟨rfl, ⟨nd, rfl⟩⟩; (try first | exact ⟨rfl, _, World.drewN_drewN _ _ _⟩ | exact ⟨rfl, _, Eq.trans (World.drewN_drewN _ _ _) (congrArg (World.drewN _) (Nat.add_assoc _ _ _))⟩))))
        go_roundg k1
        case measure => have := HK1.out; omega
        case rel => exact ⟨(wrap64 (x7_1 + 1)), (ZqS), H', ⟨by have := HK1.out; omega⟩, ⟨ZK BK1141⟩, ⟨ZB⟩⟩
       ·replace c14 := Bool.eq_false_iff.mpr c14
        subst c14
        rw [if_neg (show ¬ (false = true) by decide)] at H
        obtain rfl := Option.some.inj H
        have p1144 : 0 ≤ (x7_1 : Int) := of_decide_eq_true (by first | (with_reducible assumption) | assumption)
        have q1144 : x7_1 < (l2.length : Int) := of_decide_eq_true (by first | (with_reducible assumption) | assumption)
        obtain ⟨ad1144, e1144, hx1144_0⟩ := Kd.at_int HR2.out x7_1 p1144 q1144
        cases e1144
        replace hx1144_0 := (HB.out.cell (World.block_lt_of_cell? w _ hx1144_0)).trans hx1144_0
        replace p1144 := eq_true p1144
        replace q1144 := eq_true q1144
        obtain ⟨hcz16_0, hcz16_1, hcz16_2, hfz16_0, hfz16_1, hfz16_2⟩ := ZD3 BK1141
        go_wp2_with (first | (go_at_call 126; (with_reducible refine (spec_l01In.calls (rd l2 x7_1) 0 (wrap64 ((l0_1.length : Int) - 1)) false _ A13.out).mono ?_); rintro e w' ⟨rfl, ⟨nd, rfl⟩⟩; (try first | exact ⟨rfl, _, World.drewN_drewN _ _ _⟩ | exact ⟨rfl, _, Eq.trans (World.drewN_drewN _ _ _) (congrArg (World.drewN _) (Nat.add_assoc _ _ _))⟩)))
        repeat (go_quiet (first | (go_at_call 126; (with_reducible refine (spec_l01In.calls (rd l2 x7_1) 0 (wrap64 ((l0_1.length : Int) - 1)) false _ A13.out).mono ?_); rintro e w' ⟨rfl, ⟨nd, rfl⟩⟩; (try first | exact ⟨rfl, _, World.drewN_drewN _ _ _⟩ | exact ⟨rfl, _, Eq.trans (World.drewN_drewN _ _ _) (congrArg (World.drewN _) (Nat.add_assoc _ _ _))⟩))); try go_wp2_with (first | (go_at_call 126; (with_reducible refine (spec_l01In.calls (rd l2 x7_1) 0 (wrap64 ((l0_1.length : Int) - 1)) false _ A13.out).mono ?_); rintro e w' ⟨rfl, ⟨nd, rfl⟩⟩; (try first | exact ⟨rfl, _, World.drewN_drewN _ _ _⟩ | exact ⟨rfl, _, Eq.trans (World.drewN_drewN _ _ _) (congrArg (World.drewN _) (Nat.add_assoc _ _ _))⟩))))
        go_ret
        exact ⟨ZqR, ZB⟩
      ·rw [if_neg c12] at H
       exact absurd H (by simp)
     ·rw [if_neg c11] at H
      have c11b0 : decide (x7_1 < (l2.length : Int)) = false := decide_eq_false c11
      clear c11
      obtain rfl := Option.some.inj H
      go_wp2
      repeat (go_quiet (fail); try go_wp2)
      go_ret
      exact ⟨ZqR, ZB⟩
  ·replace c7 := Bool.eq_false_iff.mpr c7
   subst c7
   rw [if_neg (show ¬ (false = true) by decide)] at H
   obtain rfl := Option.some.inj H
   go_enter Try.func151, Try.ntmps151
   go_wp2_with (first | ((with_reducible refine gate_dst (N := 3) rfl ?_); refine box_event ?hg (N := 3) ?hd (cs := #[.int .i64 a0_0, .slice A0_1 l0_1.length c0_1, .slice A0_2 l0_2.length c0_2]) (t := 26) ?hr ?_; (case hd => rfl); (case hg => rfl); (case hr => exact ZqT); intro gb1141 hg w17 hbox hb; have n0_ := Aside0.mk (below_step ZB hb); have n1_ := Aside0.mk (hbox); have n2_ := Aside0.mk ((ZG hg : w.heap.size ≤ gb1141)); have n3_ := Aside0.mk ((ZG hg : w.heap.size ≤ gb1141)); clear HB; have HB := n0_; have BK1141 := n1_; have GW1141 := n2_; have GE1141 := n3_; clear n0_ n1_ n2_ n3_; clear hb hbox hg; obtain ⟨hcz18_0, hcz18_1, hcz18_2, hfz18_0, hfz18_1, hfz18_2⟩ := ZD3 BK1141) | (go_at_call 154; (with_reducible refine (spec_l03Is.calls k a0_0 _ _ l0_1 _ _ l0_2 true _ ?side1 ?side2 ?side3 ?side4 A4.out).mono ?_); (case side1 => exact ZC HR0_1); (case side2 => exact HC0_1.out); (case side3 => exact ZC HR0_2); (case side4 => exact HC0_2.out); rintro e w19 ⟨rfl, hb⟩; have n0_ := ZL BK1141 hb; have n1_ := Aside0.mk (below_step ZB hb); clear BK1141 HB; have BK1141 := n0_; have HB := n1_; clear n0_ n1_; (try clear hb)) | (go_at_call 126; (with_reducible refine (spec_l01In.calls a1 0 24 false _ A6.out).mono ?_); rintro e w' ⟨rfl, ⟨nd, rfl⟩⟩; (try first | exact ⟨rfl, _, World.drewN_drewN _ _ _⟩ | exact ⟨rfl, _, Eq.trans (World.drewN_drewN _ _ _) (congrArg (World.drewN _) (Nat.add_assoc _ _ _))⟩)))
   repeat (go_quiet (first | ((with_reducible refine gate_dst (N := 3) rfl ?_); refine box_event ?hg (N := 3) ?hd (cs := #[.int .i64 a0_0, .slice A0_1 l0_1.length c0_1, .slice A0_2 l0_2.length c0_2]) (t := 26) ?hr ?_; (case hd => rfl); (case hg => rfl); (case hr => exact ZqT); intro gb1141 hg w17 hbox hb; have n0_ := Aside0.mk (below_step ZB hb); have n1_ := Aside0.mk (hbox); have n2_ := Aside0.mk ((ZG hg : w.heap.size ≤ gb1141)); have n3_ := Aside0.mk ((ZG hg : w.heap.size ≤ gb1141)); clear HB; have HB := n0_; have BK1141 := n1_; have GW1141 := n2_; have GE1141 := n3_; clear n0_ n1_ n2_ n3_; clear hb hbox hg; obtain ⟨hcz18_0, hcz18_1, hcz18_2, hfz18_0, hfz18_1, hfz18_2⟩ := ZD3 BK1141) | (go_at_call 154; (with_reducible refine (spec_l03Is.calls k a0_0 _ _ l0_1 _ _ l0_2 true _ ?side1 ?side2 ?side3 ?side4 A4.out).mono ?_); (case side1 => exact ZC HR0_1); (case side2 => exact HC0_1.out); (case side3 => exact ZC HR0_2); (case side4 => exact HC0_2.out); rintro e w19 ⟨rfl, hb⟩; have n0_ := ZL BK1141 hb; have n1_ := Aside0.mk (below_step ZB hb); clear BK1141 HB; have BK1141 := n0_; have HB := n1_; clear n0_ n1_; (try clear hb)) | (go_at_call 126; (with_reducible refine (spec_l01In.calls a1 0 24 false _ A6.out).mono ?_); rintro e w' ⟨rfl, ⟨nd, rfl⟩⟩; (try first | exact ⟨rfl, _, World.drewN_drewN _ _ _⟩ | exact ⟨rfl, _, Eq.trans (World.drewN_drewN _ _ _) (congrArg (World.drewN _) (Nat.add_assoc _ _ _))⟩))); try go_wp2_with (first | ((with_reducible refine gate_dst (N := 3) rfl ?_); refine box_event ?hg (N := 3) ?hd (cs := #[.int .i64 a0_0, .slice A0_1 l0_1.length c0_1, .slice A0_2 l0_2.length c0_2]) (t := 26) ?hr ?_; (case hd => rfl); (case hg => rfl); (case hr => exact ZqT); intro gb1141 hg w17 hbox hb; have n0_ := Aside0.mk (below_step ZB hb); have n1_ := Aside0.mk (hbox); have n2_ := Aside0.mk ((ZG hg : w.heap.size ≤ gb1141)); have n3_ := Aside0.mk ((ZG hg : w.heap.size ≤ gb1141)); clear HB; have HB := n0_; have BK1141 := n1_; have GW1141 := n2_; have GE1141 := n3_; clear n0_ n1_ n2_ n3_; clear hb hbox hg; obtain ⟨hcz18_0, hcz18_1, hcz18_2, hfz18_0, hfz18_1, hfz18_2⟩ := ZD3 BK1141) | (go_at_call 154; (with_reducible refine (spec_l03Is.calls k a0_0 _ _ l0_1 _ _ l0_2 true _ ?side1 ?side2 ?side3 ?side4 A4.out).mono ?_); (case side1 => exact ZC HR0_1); (case side2 => exact HC0_1.out); (case side3 => exact ZC HR0_2); (case side4 => exact HC0_2.out); rintro e w19 ⟨rfl, hb⟩; have n0_ := ZL BK1141 hb; have n1_ := Aside0.mk (below_step ZB hb); clear BK1141 HB; have BK1141 := n0_; have HB := n1_; clear n0_ n1_; (try clear hb)) | (go_at_call 126; (with_reducible refine (spec_l01In.calls a1 0 24 false _ A6.out).mono ?_); rintro e w' ⟨rfl, ⟨nd, rfl⟩⟩; (try first | exact ⟨rfl, _, World.drewN_drewN _ _ _⟩ | exact ⟨rfl, _, Eq.trans (World.drewN_drewN _ _ _) (congrArg (World.drewN _) (Nat.add_assoc _ _ _))⟩))))
   go_ret
   exact ⟨ZqR, ZB⟩
 ·replace c5 := Bool.eq_false_iff.mpr c5
  subst c5
  rw [if_neg (show ¬ (false = true) by decide)] at H
  obtain rfl := Option.some.inj H
  go_enter Try.func151, Try.ntmps151
  go_wp2_with (first | ((with_reducible refine gate_dst (N := 3) rfl ?_); refine box_event ?hg (N := 3) ?hd (cs := #[.int .i64 a0_0, .slice A0_1 l0_1.length c0_1, .slice A0_2 l0_2.length c0_2]) (t := 26) ?hr ?_; (case hd => rfl); (case hg => rfl); (case hr => exact ZqT); intro gb1141 hg w20 hbox hb; have n0_ := Aside0.mk (below_step ZB hb); have n1_ := Aside0.mk (hbox); have n2_ := Aside0.mk ((ZG hg : w.heap.size ≤ gb1141)); have n3_ := Aside0.mk ((ZG hg : w.heap.size ≤ gb1141)); clear HB; have HB := n0_; have BK1141 := n1_; have GW1141 := n2_; have GE1141 := n3_; clear n0_ n1_ n2_ n3_; clear hb hbox hg; obtain ⟨hcz21_0, hcz21_1, hcz21_2, hfz21_0, hfz21_1, hfz21_2⟩ := ZD3 BK1141) | (go_at_call 154; (with_reducible refine (spec_l03Is.calls k a0_0 _ _ l0_1 _ _ l0_2 false _ ?side1 ?side2 ?side3 ?side4 A4.out).mono ?_); (case side1 => exact ZC HR0_1); (case side2 => exact HC0_1.out); (case side3 => exact ZC HR0_2); (case side4 => exact HC0_2.out); rintro e w22 ⟨rfl, hb⟩; have n0_ := ZL BK1141 hb; have n1_ := Aside0.mk (below_step ZB hb); clear BK1141 HB; have BK1141 := n0_; have HB := n1_; clear n0_ n1_; (try clear hb)))
  repeat (go_quiet (first | ((with_reducible refine gate_dst (N := 3) rfl ?_); refine box_event ?hg (N := 3) ?hd (cs := #[.int .i64 a0_0, .slice A0_1 l0_1.length c0_1, .slice A0_2 l0_2.length c0_2]) (t := 26) ?hr ?_; (case hd => rfl); (case hg => rfl); (case hr => exact ZqT); intro gb1141 hg w20 hbox hb; have n0_ := Aside0.mk (below_step ZB hb); have n1_ := Aside0.mk (hbox); have n2_ := Aside0.mk ((ZG hg : w.heap.size ≤ gb1141)); have n3_ := Aside0.mk ((ZG hg : w.heap.size ≤ gb1141)); clear HB; have HB := n0_; have BK1141 := n1_; have GW1141 := n2_; have GE1141 := n3_; clear n0_ n1_ n2_ n3_; clear hb hbox hg; obtain ⟨hcz21_0, hcz21_1, hcz21_2, hfz21_0, hfz21_1, hfz21_2⟩ := ZD3 BK1141) | (go_at_call 154; (with_reducible refine (spec_l03Is.calls k a0_0 _ _ l0_1 _ _ l0_2 false _ ?side1 ?side2 ?side3 ?side4 A4.out).mono ?_); (case side1 => exact ZC HR0_1); (case side2 => exact HC0_1.out); (case side3 => exact ZC HR0_2); (case side4 => exact HC0_2.out); rintro e w22 ⟨rfl, hb⟩; have n0_ := ZL BK1141 hb; have n1_ := Aside0.mk (below_step ZB hb); clear BK1141 HB; have BK1141 := n0_; have HB := n1_; clear n0_ n1_; (try clear hb))); try go_wp2_with (first | ((with_reducible refine gate_dst (N := 3) rfl ?_); refine box_event ?hg (N := 3) ?hd (cs := #[.int .i64 a0_0, .slice A0_1 l0_1.length c0_1, .slice A0_2 l0_2.length c0_2]) (t := 26) ?hr ?_; (case hd => rfl); (case hg => rfl); (case hr => exact ZqT); intro gb1141 hg w20 hbox hb; have n0_ := Aside0.mk (below_step ZB hb); have n1_ := Aside0.mk (hbox); have n2_ := Aside0.mk ((ZG hg : w.heap.size ≤ gb1141)); have n3_ := Aside0.mk ((ZG hg : w.heap.size ≤ gb1141)); clear HB; have HB := n0_; have BK1141 := n1_; have GW1141 := n2_; have GE1141 := n3_; clear n0_ n1_ n2_ n3_; clear hb hbox hg; obtain ⟨hcz21_0, hcz21_1, hcz21_2, hfz21_0, hfz21_1, hfz21_2⟩ := ZD3 BK1141) | (go_at_call 154; (with_reducible refine (spec_l03Is.calls k a0_0 _ _ l0_1 _ _ l0_2 false _ ?side1 ?side2 ?side3 ?side4 A4.out).mono ?_); (case side1 => exact ZC HR0_1); (case side2 => exact HC0_1.out); (case side3 => exact ZC HR0_2); (case side4 => exact HC0_2.out); rintro e w22 ⟨rfl, hb⟩; have n0_ := ZL BK1141 hb; have n1_ := Aside0.mk (below_step ZB hb); clear BK1141 HB; have BK1141 := n0_; have HB := n1_; clear n0_ n1_; (try clear hb))))
  go_ret
  exact ⟨ZqR, ZB⟩

/-! ### spec_WeightOfPath: function 39 -/
mutual
def spec_WeightOfPath.l0 : Nat → ByteArray → List Int → Bool → Int → Int → List Int → List Int → Option (Int × Int)
 | 0, _, _, _, _, _, _, _ => none
 | k + 1, x1, x9, x10, x11, x1147000, x1147001, x1147002 => if x11 < (x9.length : Int) then (if x10 = true then (if 0 ≤ x11 then (spec_WeightOfPath.l0 k x1 x9 (decide ((rd x9 x11) < (x1147001.length : Int))) (wrap64 (x11 + 1)) x1147000 x1147001 x1147002) else (none)) else (spec_WeightOfPath.l0 k x1 x9 false (wrap64 (x11 + 1)) x1147000 x1147001 x1147002)) else (if x10 = true then (if x1147000 = 0 then (none) else (spec_WeightOfPath.l1 k x1 x9 ((1 : Int) % x1147000) 0 x1147000 x1147001 x1147002)) else (some (0, 2)))
def spec_WeightOfPath.l1 : Nat → ByteArray → List Int → Int → Int → Int → List Int → List Int → Option (Int × Int)
 | 0, _, _, _, _, _, _, _ => none
 | k + 1, x1, x9, x12, x13, x1147000, x1147001, x1147002 => if x13 < (x1.size : Int) then (if 0 ≤ x13 then (if (bt x1 x13) = 76 then (if x13 < (x9.length : Int) then (if 0 ≤ (rd x9 x13) then (if (rd x9 x13) < (x1147001.length : Int) then (if x1147000 = 0 then (none) else (spec_WeightOfPath.l1 k x1 x9 (Int.tmod (wrap64 (x12 * (rd x1147001 (rd x9 x13)))) x1147000) (wrap64 (x13 + 1)) x1147000 x1147001 x1147002)) else (none)) else (none)) else (none)) else (if (bt x1 x13) = 68 then (if x13 < (x9.length : Int) then (if 0 ≤ (rd x9 x13) then (if (rd x9 x13) < (x1147002.length : Int) then (if x1147000 = 0 then (none) else (spec_WeightOfPath.l1 k x1 x9 (Int.tmod (wrap64 (x12 * (rd x1147002 (rd x9 x13)))) x1147000) (wrap64 (x13 + 1)) x1147000 x1147001 x1147002)) else (none)) else (none)) else (none)) else (spec_WeightOfPath.l1 k x1 x9 x12 (wrap64 (x13 + 1)) x1147000 x1147001 x1147002))) else (none)) else (some (x12, 0))
end
def spec_WeightOfPath.f (k : Nat) (a0_0 : Int) (l0_1 : List Int) (l0_2 : List Int) (a1 : ByteArray) (a2 : Int) : Option (Int × Int) := (spec_l09Code.f k a0_0 l0_1 l0_2 0 (([a2] : List Int))).bind fun t1150 => (if t1150 = 0 then ((spec_l09Heights.f k a1 a2).bind fun bt1151 => (spec_WeightOfPath.l0 k a1 bt1151.1 bt1151.2 0 a0_0 l0_1 l0_2)) else (some (0, t1150)))
theorem spec_WeightOfPath.mono_l : ∀ k, (∀ y0 y1 y2 y3 y4 y5 y6, LeO (spec_WeightOfPath.l0 k y0 y1 y2 y3 y4 y5 y6) (spec_WeightOfPath.l0 (k + 1) y0 y1 y2 y3 y4 y5 y6)) ∧ (∀ y0 y1 y2 y3 y4 y5 y6, LeO (spec_WeightOfPath.l1 k y0 y1 y2 y3 y4 y5 y6) (spec_WeightOfPath.l1 (k + 1) y0 y1 y2 y3 y4 y5 y6))
 | 0 => ⟨fun _ _ _ _ _ _ _ r h => by simp [spec_WeightOfPath.l0] at h, fun _ _ _ _ _ _ _ r h => by simp [spec_WeightOfPath.l1] at h⟩
 | k + 1 => by
  obtain ⟨ih0, ih1⟩ := spec_WeightOfPath.mono_l k
  refine ⟨?_, ?_⟩
  ·intro y0 y1 y2 y3 y4 y5 y6
   unfold spec_WeightOfPath.l0
   repeat' first
   | (with_reducible exact ih0 _ _ _ _ _ _ _)
   | (with_reducible exact ih1 _ _ _ _ _ _ _)
   | (with_reducible exact spec_l09Code.mono _ _ _ _ _ _)
   | (with_reducible exact spec_l09Heights.mono _ _ _)
   | (with_reducible exact LeO.refl _)
   | (with_reducible exact LeO.none _)
   | (with_reducible refine LeO.ite ?_ ?_)
   | (with_reducible refine LeO.bind ?_ (fun _ => ?_))
   | exact ih0 _ _ _ _ _ _ _
   | exact ih1 _ _ _ _ _ _ _
   | exact spec_l09Code.mono _ _ _ _ _ _
   | exact spec_l09Heights.mono _ _ _
   | exact LeO.none _
   | refine LeO.ite ?_ ?_
   | refine LeO.bind ?_ (fun _ => ?_)
  ·intro y0 y1 y2 y3 y4 y5 y6
   unfold spec_WeightOfPath.l1
   repeat' first
   | (with_reducible exact ih0 _ _ _ _ _ _ _)
   | (with_reducible exact ih1 _ _ _ _ _ _ _)
   | (with_reducible exact spec_l09Code.mono _ _ _ _ _ _)
   | (with_reducible exact spec_l09Heights.mono _ _ _)
   | (with_reducible exact LeO.refl _)
   | (with_reducible exact LeO.none _)
   | (with_reducible refine LeO.ite ?_ ?_)
   | (with_reducible refine LeO.bind ?_ (fun _ => ?_))
   | exact ih0 _ _ _ _ _ _ _
   | exact ih1 _ _ _ _ _ _ _
   | exact spec_l09Code.mono _ _ _ _ _ _
   | exact spec_l09Heights.mono _ _ _
   | exact LeO.none _
   | refine LeO.ite ?_ ?_
   | refine LeO.bind ?_ (fun _ => ?_)
theorem spec_WeightOfPath.mono : ∀ a0 a1 a2 a3 a4 k, LeO (spec_WeightOfPath.f k a0 a1 a2 a3 a4) (spec_WeightOfPath.f (k + 1) a0 a1 a2 a3 a4) := by
 intro a0 a1 a2 a3 a4 k
 obtain ⟨ih0, ih1⟩ := spec_WeightOfPath.mono_l k
 unfold spec_WeightOfPath.f
 repeat' first
   | (with_reducible exact ih0 _ _ _ _ _ _ _)
   | (with_reducible exact ih1 _ _ _ _ _ _ _)
   | (with_reducible exact spec_l09Code.mono _ _ _ _ _ _)
   | (with_reducible exact spec_l09Heights.mono _ _ _)
   | (with_reducible exact LeO.refl _)
   | (with_reducible exact LeO.none _)
   | (with_reducible refine LeO.ite ?_ ?_)
   | (with_reducible refine LeO.bind ?_ (fun _ => ?_))
   | exact ih0 _ _ _ _ _ _ _
   | exact ih1 _ _ _ _ _ _ _
   | exact spec_l09Code.mono _ _ _ _ _ _
   | exact spec_l09Heights.mono _ _ _
   | exact LeO.none _
   | refine LeO.ite ?_ ?_
   | refine LeO.bind ?_ (fun _ => ?_)
set_option maxHeartbeats 8000000 in
set_option maxRecDepth 100000 in
theorem spec_WeightOfPath.calls (k : Nat) (a0_0 : Int) (A0_1 : Option Addr) (c0_1 : Nat) (l0_1 : List Int) (A0_2 : Option Addr) (c0_2 : Nat) (l0_2 : List Int) (a1 : ByteArray) (a2 : Int) (r1 : Int) (r2 : Int) (w : World) (hr0_1 : Kd.C (Kd.int .i64) w A0_1 l0_1.length l0_1) (hc0_1 : l0_1.length ≤ c0_1) (hr0_2 : Kd.C (Kd.int .i64) w A0_2 l0_2.length l0_2) (hc0_2 : l0_2.length ≤ c0_2) (h : spec_WeightOfPath.f k a0_0 l0_1 l0_2 a1 a2 = some (r1, r2)) :
  Calls Try.prog 39 #[.agg #[.int .i64 a0_0, .slice A0_1 l0_1.length c0_1, .slice A0_2 l0_2.length c0_2], .string a1, .int .i64 a2] w fun e w' => e = .returned (.tuple #[.int .i64 r1, .int .i64 r2]) ∧ Below w.heap.size w w' := by
 have hu26 := Try.underlying26
 have HR0_1 := Aside0.mk hr0_1
 have HC0_1 := Aside0.mk hc0_1
 clear hr0_1 hc0_1
 have HR0_2 := Aside0.mk hr0_2
 have HC0_2 := Aside0.mk hc0_2
 clear hr0_2 hc0_2
 have HB := Aside0.mk (Below.refl w.heap.size w)
 have H : ((spec_l09Code.f k a0_0 l0_1 l0_2 0 (([a2] : List Int))).bind fun t1150 => (if t1150 = 0 then ((spec_l09Heights.f k a1 a2).bind fun bt1151 => (spec_WeightOfPath.l0 k a1 bt1151.1 bt1151.2 0 a0_0 l0_1 l0_2)) else (some (0, t1150)))) = some (r1, r2) := h
 clear h
 obtain ⟨y1147, hy1147⟩ : ∃ y_ : List Int, y_ = (([a2] : List Int)) := ⟨_, rfl⟩
 replace H : ((spec_l09Code.f k a0_0 l0_1 l0_2 0 y1147).bind fun t1150 => (if t1150 = 0 then ((spec_l09Heights.f k a1 a2).bind fun bt1151 => (spec_WeightOfPath.l0 k a1 bt1151.1 bt1151.2 0 a0_0 l0_1 l0_2)) else (some (0, t1150)))) = some (r1, r2) := by have hq_ := hy1147; exact ZqH
 have Ny1147 := Aside0.mk hy1147
 clear hy1147
 replace H := Option.bind_eq_some_iff.mp H
 obtain ⟨t1150, A40, H⟩ := H
 try dsimp only at H
 have A4 := Aside0.mk A40
 clear A40
 by_cases c5 : t1150 = 0
 ·rw [if_pos c5] at H
  have c5b0 : (t1150 == 0) = true := beq_iff_eq.mpr c5
  have c5b1 : (t1150 != 0) = false := bne_eq_false_iff_eq.mpr c5
  clear c5
  replace H := Option.bind_eq_some_iff.mp H
  obtain ⟨⟨t1151, t1152⟩, A60, H⟩ := H
  try dsimp only at H
  have A6 := Aside0.mk A60
  clear A60
  have H' := Aside0.mk H
  clear H
  go_enter Try.func39, Try.ntmps39
  go_wp2_with (first | ((with_reducible refine gate_dst (N := 3) rfl ?_); (try (refine gate_guard (by rfl) ?_; dsimp only)); refine box_event ?hg (N := 3) ?hd (cs := #[.int .i64 a0_0, .slice A0_1 l0_1.length c0_1, .slice A0_2 l0_2.length c0_2]) (t := 26) ?hr ?_; (case hd => rfl); (case hg => rfl); (case hr => exact ZqT); intro gb1146 hg w7 hbox hb; have n0_ := Aside0.mk (below_step ZB hb); have n1_ := Aside0.mk (hbox); have n2_ := Aside0.mk ((ZG hg : w.heap.size ≤ gb1146)); have n3_ := Aside0.mk ((ZG hg : w.heap.size ≤ gb1146)); clear HB; have HB := n0_; have BK1146 := n1_; have GW1146 := n2_; have GE1146 := n3_; clear n0_ n1_ n2_ n3_; clear hb hbox hg; obtain ⟨hcz8_0, hcz8_1, hcz8_2, hfz8_0, hfz8_1, hfz8_2⟩ := ZD3 BK1146) | ((with_reducible refine gate_dst (N := 16) rfl ?_); (try (refine gate_guard (by rfl) ?_; dsimp only)); refine Kd.R_lit (Kd.int .i64) _ 2 ?hg (N := 16) ?hd (xs := ([a2] : List Int)) (inner := [.int .i64 a2]) (ok := fun _ => True) (okp := fun _ => True) ?hr ?hp (fun _ hk => hk) trivial (Below.refl _ _) (Nat.le_refl _) (by simp) ?_; (case hd => rfl); (case hg => rfl); (case hr => exact ZqT); (case hp => exact (Reps.one (show Kd.M (Kd.int .i64) _ _ _ a2 [.int .i64 a2] from rfl) (Reps.none _ _))); intro v1148 w9 ho10 hb hg_ hnew_; clear hg_ hnew_; (first | rw [← Ny1147.out] at ho10 | (simp only [Int.reduceToNat] at ho10; rw [← Ny1147.out] at ho10)); have n0_ := Aside0.mk (Kd.R_lower ho10 (below_size ZB)); have n1_ := ZL BK1146 hb; have n2_ := Aside0.mk (below_step ZB hb); clear BK1146 HB; have HO1149 := n0_; have BK1146 := n1_; have HB := n2_; clear n0_ n1_ n2_; clear hb ho10; obtain ⟨Ao11, co11, eo11⟩ := Kd.R_slice HO1149.out; subst eo11) | (go_at_call 151; (with_reducible refine (spec_l09Code.calls k a0_0 _ _ l0_1 _ _ l0_2 0 _ _ y1147 t1150 _ ?side1 ?side2 ?side3 ?side4 ?side5 ?side6 A4.out).mono ?_); (case side1 => exact ZC HR0_1); (case side2 => exact HC0_1.out); (case side3 => exact ZC HR0_2); (case side4 => exact HC0_2.out); (case side5 => exact ZqC ((Kd.R_reads' HO1149.out).2.2)); (case side6 => exact (Kd.R_reads' HO1149.out).2.1); rintro e w12 ⟨rfl, hb⟩; have n0_ := Aside0.mk (Kd.R_below (ZR HO1149) hb); have n1_ := ZL BK1146 hb; have n2_ := Aside0.mk (below_step ZB hb); clear HO1149 BK1146 HB; have HO1149 := n0_; have BK1146 := n1_; have HB := n2_; clear n0_ n1_ n2_; (try clear hb)) | (go_at_call 147; (with_reducible refine (spec_l09Heights.calls k a1 a2 t1151 t1152 _ A6.out).mono ?_); rintro e w13 ⟨v1153, rfl, ho0, hb⟩; have n0_ := Aside0.mk (Kd.R_elder' (ZR HO1149) (Kd.R_base ho0) hb); have n1_ := Aside0.mk (Kd.R_lower (Kd.R_new' ho0 (Kd.R_lt (ZR HO1149))) (below_size ZB)); have n2_ := ZL BK1146 hb; have n3_ := Aside0.mk (below_step ZB hb); clear HO1149 BK1146 HB; have HO1149 := n0_; have HO1154 := n1_; have BK1146 := n2_; have HB := n3_; clear n0_ n1_ n2_ n3_; (try clear hb); (try clear ho0)))
  repeat (go_quiet (first | ((with_reducible refine gate_dst (N := 3) rfl ?_); (try (refine gate_guard (by rfl) ?_; dsimp only)); refine box_event ?hg (N := 3) ?hd (cs := #[.int .i64 a0_0, .slice A0_1 l0_1.length c0_1, .slice A0_2 l0_2.length c0_2]) (t := 26) ?hr ?_; (case hd => rfl); (case hg => rfl); (case hr => exact ZqT); intro gb1146 hg w7 hbox hb; have n0_ := Aside0.mk (below_step ZB hb); have n1_ := Aside0.mk (hbox); have n2_ := Aside0.mk ((ZG hg : w.heap.size ≤ gb1146)); have n3_ := Aside0.mk ((ZG hg : w.heap.size ≤ gb1146)); clear HB; have HB := n0_; have BK1146 := n1_; have GW1146 := n2_; have GE1146 := n3_; clear n0_ n1_ n2_ n3_; clear hb hbox hg; obtain ⟨hcz8_0, hcz8_1, hcz8_2, hfz8_0, hfz8_1, hfz8_2⟩ := ZD3 BK1146) | ((with_reducible refine gate_dst (N := 16) rfl ?_); (try (refine gate_guard (by rfl) ?_; dsimp only)); refine Kd.R_lit (Kd.int .i64) _ 2 ?hg (N := 16) ?hd (xs := ([a2] : List Int)) (inner := [.int .i64 a2]) (ok := fun _ => True) (okp := fun _ => True) ?hr ?hp (fun _ hk => hk) trivial (Below.refl _ _) (Nat.le_refl _) (by simp) ?_; (case hd => rfl); (case hg => rfl); (case hr => exact ZqT); (case hp => exact (Reps.one (show Kd.M (Kd.int .i64) _ _ _ a2 [.int .i64 a2] from rfl) (Reps.none _ _))); intro v1148 w9 ho10 hb hg_ hnew_; clear hg_ hnew_; (first | rw [← Ny1147.out] at ho10 | (simp only [Int.reduceToNat] at ho10; rw [← Ny1147.out] at ho10)); have n0_ := Aside0.mk (Kd.R_lower ho10 (below_size ZB)); have n1_ := ZL BK1146 hb; have n2_ := Aside0.mk (below_step ZB hb); clear BK1146 HB; have HO1149 := n0_; have BK1146 := n1_; have HB := n2_; clear n0_ n1_ n2_; clear hb ho10; obtain ⟨Ao11, co11, eo11⟩ := Kd.R_slice HO1149.out; subst eo11) | (go_at_call 151; (with_reducible refine (spec_l09Code.calls k a0_0 _ _ l0_1 _ _ l0_2 0 _ _ y1147 t1150 _ ?side1 ?side2 ?side3 ?side4 ?side5 ?side6 A4.out).mono ?_); (case side1 => exact ZC HR0_1); (case side2 => exact HC0_1.out); (case side3 => exact ZC HR0_2); (case side4 => exact HC0_2.out); (case side5 => exact ZqC ((Kd.R_reads' HO1149.out).2.2)); (case side6 => exact (Kd.R_reads' HO1149.out).2.1); rintro e w12 ⟨rfl, hb⟩; have n0_ := Aside0.mk (Kd.R_below (ZR HO1149) hb); have n1_ := ZL BK1146 hb; have n2_ := Aside0.mk (below_step ZB hb); clear HO1149 BK1146 HB; have HO1149 := n0_; have BK1146 := n1_; have HB := n2_; clear n0_ n1_ n2_; (try clear hb)) | (go_at_call 147; (with_reducible refine (spec_l09Heights.calls k a1 a2 t1151 t1152 _ A6.out).mono ?_); rintro e w13 ⟨v1153, rfl, ho0, hb⟩; have n0_ := Aside0.mk (Kd.R_elder' (ZR HO1149) (Kd.R_base ho0) hb); have n1_ := Aside0.mk (Kd.R_lower (Kd.R_new' ho0 (Kd.R_lt (ZR HO1149))) (below_size ZB)); have n2_ := ZL BK1146 hb; have n3_ := Aside0.mk (below_step ZB hb); clear HO1149 BK1146 HB; have HO1149 := n0_; have HO1154 := n1_; have BK1146 := n2_; have HB := n3_; clear n0_ n1_ n2_ n3_; (try clear hb); (try clear ho0))); try go_wp2_with (first | ((with_reducible refine gate_dst (N := 3) rfl ?_); (try (refine gate_guard (by rfl) ?_; dsimp only)); refine box_event ?hg (N := 3) ?hd (cs := #[.int .i64 a0_0, .slice A0_1 l0_1.length c0_1, .slice A0_2 l0_2.length c0_2]) (t := 26) ?hr ?_; (case hd => rfl); (case hg => rfl); (case hr => exact ZqT); intro gb1146 hg w7 hbox hb; have n0_ := Aside0.mk (below_step ZB hb); have n1_ := Aside0.mk (hbox); have n2_ := Aside0.mk ((ZG hg : w.heap.size ≤ gb1146)); have n3_ := Aside0.mk ((ZG hg : w.heap.size ≤ gb1146)); clear HB; have HB := n0_; have BK1146 := n1_; have GW1146 := n2_; have GE1146 := n3_; clear n0_ n1_ n2_ n3_; clear hb hbox hg; obtain ⟨hcz8_0, hcz8_1, hcz8_2, hfz8_0, hfz8_1, hfz8_2⟩ := ZD3 BK1146) | ((with_reducible refine gate_dst (N := 16) rfl ?_); (try (refine gate_guard (by rfl) ?_; dsimp only)); refine Kd.R_lit (Kd.int .i64) _ 2 ?hg (N := 16) ?hd (xs := ([a2] : List Int)) (inner := [.int .i64 a2]) (ok := fun _ => True) (okp := fun _ => True) ?hr ?hp (fun _ hk => hk) trivial (Below.refl _ _) (Nat.le_refl _) (by simp) ?_; (case hd => rfl); (case hg => rfl); (case hr => exact ZqT); (case hp => exact (Reps.one (show Kd.M (Kd.int .i64) _ _ _ a2 [.int .i64 a2] from rfl) (Reps.none _ _))); intro v1148 w9 ho10 hb hg_ hnew_; clear hg_ hnew_; (first | rw [← Ny1147.out] at ho10 | (simp only [Int.reduceToNat] at ho10; rw [← Ny1147.out] at ho10)); have n0_ := Aside0.mk (Kd.R_lower ho10 (below_size ZB)); have n1_ := ZL BK1146 hb; have n2_ := Aside0.mk (below_step ZB hb); clear BK1146 HB; have HO1149 := n0_; have BK1146 := n1_; have HB := n2_; clear n0_ n1_ n2_; clear hb ho10; obtain ⟨Ao11, co11, eo11⟩ := Kd.R_slice HO1149.out; subst eo11) | (go_at_call 151; (with_reducible refine (spec_l09Code.calls k a0_0 _ _ l0_1 _ _ l0_2 0 _ _ y1147 t1150 _ ?side1 ?side2 ?side3 ?side4 ?side5 ?side6 A4.out).mono ?_); (case side1 => exact ZC HR0_1); (case side2 => exact HC0_1.out); (case side3 => exact ZC HR0_2); (case side4 => exact HC0_2.out); (case side5 => exact ZqC ((Kd.R_reads' HO1149.out).2.2)); (case side6 => exact (Kd.R_reads' HO1149.out).2.1); rintro e w12 ⟨rfl, hb⟩; have n0_ := Aside0.mk (Kd.R_below (ZR HO1149) hb); have n1_ := ZL BK1146 hb; have n2_ := Aside0.mk (below_step ZB hb); clear HO1149 BK1146 HB; have HO1149 := n0_; have BK1146 := n1_; have HB := n2_; clear n0_ n1_ n2_; (try clear hb)) | (go_at_call 147; (with_reducible refine (spec_l09Heights.calls k a1 a2 t1151 t1152 _ A6.out).mono ?_); rintro e w13 ⟨v1153, rfl, ho0, hb⟩; have n0_ := Aside0.mk (Kd.R_elder' (ZR HO1149) (Kd.R_base ho0) hb); have n1_ := Aside0.mk (Kd.R_lower (Kd.R_new' ho0 (Kd.R_lt (ZR HO1149))) (below_size ZB)); have n2_ := ZL BK1146 hb; have n3_ := Aside0.mk (below_step ZB hb); clear HO1149 BK1146 HB; have HO1149 := n0_; have HO1154 := n1_; have BK1146 := n2_; have HB := n3_; clear n0_ n1_ n2_ n3_; (try clear hb); (try clear ho0))))
  go_loopg [10, 11] k (fun kq v10 v11 w' => ∃ (x10_1 : Bool) (x11_1 : Int), v10 = .bool x10_1 ∧ v11 = .int .i64 x11_1 ∧ Aside0 (spec_WeightOfPath.l0 kq a1 t1151 x10_1 x11_1 a0_0 l0_1 l0_2 = some (r1, r2)) ∧ Aside0 (kq ≤ k) ∧ Aside0 (Kd.R (Kd.int .i64) 2 w' w.heap.size (fun _ => True) v1153 t1151) ∧ Aside0 (w'.heap[gb1146]? = some (.cells #[.int .i64 a0_0, (.slice A0_1 l0_1.length c0_1), (.slice A0_2 l0_2.length c0_2)] 26 (0, 0))) ∧ Aside0 (Below w.heap.size w w'))
  case atStart => exact ⟨(t1152), (0), (ZqS), (ZqS), H', ⟨Nat.le_refl _⟩, ⟨by refine ZQ ?_; exact Kd.R_mono HO1154.out (fun _ hk => trivial)⟩, ⟨ZK BK1146⟩, ⟨ZB⟩⟩
  case round =>
   clear H'
   try clear p2
   try clear c3
   try clear c5
   try clear c5b0
   try clear c5b1
   try clear hcz8_0
   try clear hcz8_1
   try clear hcz8_2
   try clear hfz8_0
   try clear hfz8_1
   try clear hfz8_2
   obtain ⟨x10_1, x11_1, rfl, rfl, HA, HK1, HO_9, BK1146, HB⟩ := hrel
   cases gk with
   | zero => exact absurd HA.out (by simp [spec_WeightOfPath.l0])
   | succ k1 =>
    have H := HA.out
    clear HA
    simp only [spec_WeightOfPath.l0] at H
    by_cases c14 : x11_1 < (t1151.length : Int)
    ·rw [if_pos c14] at H
     have c14b0 : decide (x11_1 < (t1151.length : Int)) = true := decide_eq_true c14
     clear c14
     by_cases c15 : x10_1 = true
     ·subst c15
      rw [if_pos rfl] at H
      by_cases c16 : 0 ≤ x11_1
      ·rw [if_pos c16] at H
       have c16b0 : decide (0 ≤ x11_1) = true := decide_eq_true c16
       clear c16
       have H' := Aside0.mk H
       clear H
       obtain ⟨Ao17, co17, eo17⟩ := Kd.R_slice HO_9.out
       subst eo17
       have p1155 : 0 ≤ (x11_1 : Int) := of_decide_eq_true (by first | (with_reducible assumption) | assumption)
       have q1155 : x11_1 < (t1151.length : Int) := of_decide_eq_true (by first | (with_reducible assumption) | assumption)
       obtain ⟨ad1155, e1155, hx1155_0⟩ := Kd.at_int (Kd.R_reads' HO_9.out).2.2 x11_1 p1155 q1155
       cases e1155
       replace p1155 := eq_true p1155
       replace q1155 := eq_true q1155
       obtain ⟨hcz18_0, hcz18_1, hcz18_2, hfz18_0, hfz18_1, hfz18_2⟩ := ZD3 BK1146
       go_wp2
       repeat (go_quiet (fail); try go_wp2)
       go_roundg k1
       case measure => have := HK1.out; omega
       case rel => exact ⟨(decide ((rd t1151 x11_1) < (l0_1.length : Int))), (wrap64 (x11_1 + 1)), (ZqS), (ZqS), H', ⟨by have := HK1.out; omega⟩, ⟨ZR HO_9⟩, ⟨ZK BK1146⟩, ⟨ZB⟩⟩
      ·rw [if_neg c16] at H
       exact absurd H (by simp)
     ·replace c15 := Bool.eq_false_iff.mpr c15
      subst c15
      rw [if_neg (show ¬ (false = true) by decide)] at H
      have H' := Aside0.mk H
      clear H
      obtain ⟨Ao19, co19, eo19⟩ := Kd.R_slice HO_9.out
      subst eo19
      go_wp2
      repeat (go_quiet (fail); try go_wp2)
      go_roundg k1
      case measure => have := HK1.out; omega
      case rel => exact ⟨(false), (wrap64 (x11_1 + 1)), (ZqS), (ZqS), H', ⟨by have := HK1.out; omega⟩, ⟨ZR HO_9⟩, ⟨ZK BK1146⟩, ⟨ZB⟩⟩
    ·rw [if_neg c14] at H
     have c14b0 : decide (x11_1 < (t1151.length : Int)) = false := decide_eq_false c14
     clear c14
     by_cases c20 : x10_1 = true
     ·subst c20
      rw [if_pos rfl] at H
      by_cases c21 : a0_0 = 0
      ·rw [if_pos c21] at H
       exact absurd H (by simp)
      ·rw [if_neg c21] at H
       have c21b0 : (a0_0 == 0) = false := beq_eq_false_iff_ne.mpr c21
       have c21b1 : (a0_0 != 0) = true := bne_iff_ne.mpr c21
       have H' := Aside0.mk H
       clear H
       obtain ⟨Ao22, co22, eo22⟩ := Kd.R_slice HO_9.out
       subst eo22
       obtain ⟨hcz23_0, hcz23_1, hcz23_2, hfz23_0, hfz23_1, hfz23_2⟩ := ZD3 BK1146
       go_wp2
       repeat (go_quiet (fail); try go_wp2)
       go_loopg [12, 13] k1 (fun kq v12 v13 w' => ∃ (x12_2 : Int) (x13_2 : Int), v12 = .int .i64 x12_2 ∧ v13 = .int .i64 x13_2 ∧ Aside0 (spec_WeightOfPath.l1 kq a1 t1151 x12_2 x13_2 a0_0 l0_1 l0_2 = some (r1, r2)) ∧ Aside0 (kq ≤ k1) ∧ Aside0 (Kd.R (Kd.int .i64) 2 w' w.heap.size (fun _ => True) (.slice Ao22 t1151.length co22) t1151) ∧ Aside0 (w'.heap[gb1146]? = some (.cells #[.int .i64 a0_0, (.slice A0_1 l0_1.length c0_1), (.slice A0_2 l0_2.length c0_2)] 26 (0, 0))) ∧ Aside0 (Below w.heap.size w w'))
       case atStart => exact ⟨((1 : Int) % a0_0), (0), (ZqS), (ZqS), H', ⟨Nat.le_refl _⟩, ⟨ZR HO_9⟩, ⟨ZK BK1146⟩, ⟨ZB⟩⟩
       case round =>
        clear H'
        try clear c1
        try clear p1
        try clear q1
        try clear hx1
        try clear c2
        try clear p2
        try clear c3
        try clear c5
        try clear c5b0
        try clear c5b1
        try clear p6
        try clear p11
        try clear q11
        try clear hx11
        try clear c14
        try clear c14b0
        try clear c15
        try clear c16
        try clear c16b0
        try clear c20
        try clear c21
        try clear c21b0
        try clear c21b1
        try clear hcz18_0
        try clear hcz18_1
        try clear hcz18_2
        try clear hcz23_0
        try clear hcz23_1
        try clear hcz23_2
        try clear hcz8_0
        try clear hcz8_1
        try clear hcz8_2
        try clear hfz18_0
        try clear hfz18_1
        try clear hfz18_2
        try clear hfz23_0
        try clear hfz23_1
        try clear hfz23_2
        try clear hfz8_0
        try clear hfz8_1
        try clear hfz8_2
        try clear hx1155_0
        try clear p1155
        try clear p2
        try clear q1155
        obtain ⟨x12_2, x13_2, rfl, rfl, HA, HK2, HO_9, BK1146, HB⟩ := hrel
        cases gk with
        | zero => exact absurd HA.out (by simp [spec_WeightOfPath.l1])
        | succ k2 =>
         have H := HA.out
         clear HA
         simp only [spec_WeightOfPath.l1] at H
         by_cases c24 : x13_2 < (a1.size : Int)
         ·rw [if_pos c24] at H
          have c24b0 : decide (x13_2 < (a1.size : Int)) = true := decide_eq_true c24
          clear c24
          by_cases c25 : 0 ≤ x13_2
          ·rw [if_pos c25] at H
           have c25b0 : decide (0 ≤ x13_2) = true := decide_eq_true c25
           clear c25
           by_cases c27 : (bt a1 x13_2) = 76
           ·rw [if_pos c27] at H
            have c27b0 : ((bt a1 x13_2) == 76) = true := beq_iff_eq.mpr c27
            have c27b1 : ((bt a1 x13_2) != 76) = false := bne_eq_false_iff_eq.mpr c27
            clear c27
            by_cases c28 : x13_2 < (t1151.length : Int)
            ·rw [if_pos c28] at H
             have c28b0 : decide (x13_2 < (t1151.length : Int)) = true := decide_eq_true c28
             clear c28
             by_cases c29 : 0 ≤ (rd t1151 x13_2)
             ·rw [if_pos c29] at H
              have c29b0 : decide (0 ≤ (rd t1151 x13_2)) = true := decide_eq_true c29
              clear c29
              by_cases c30 : (rd t1151 x13_2) < (l0_1.length : Int)
              ·rw [if_pos c30] at H
               have c30b0 : decide ((rd t1151 x13_2) < (l0_1.length : Int)) = true := decide_eq_true c30
               clear c30
               by_cases c31 : a0_0 = 0
               ·rw [if_pos c31] at H
                exact absurd H (by simp)
               ·rw [if_neg c31] at H
                have c31b0 : (a0_0 == 0) = false := beq_eq_false_iff_ne.mpr c31
                have c31b1 : (a0_0 != 0) = true := bne_iff_ne.mpr c31
                have H' := Aside0.mk H
                clear H
                have p26 : 0 ≤ (x13_2 : Int) := of_decide_eq_true (by first | (with_reducible assumption) | assumption)
                have q26 : x13_2 < (a1.size : Int) := of_decide_eq_true (by first | (with_reducible assumption) | assumption)
                have hx26 := bt_at a1 x13_2
                replace p26 := eq_true p26
                replace q26 := eq_true q26
                obtain ⟨hcz32_0, hcz32_1, hcz32_2, hfz32_0, hfz32_1, hfz32_2⟩ := ZD3 BK1146
                have p1156 : 0 ≤ (x13_2 : Int) := of_decide_eq_true (by first | (with_reducible assumption) | assumption)
                have q1156 : x13_2 < (t1151.length : Int) := of_decide_eq_true (by first | (with_reducible assumption) | assumption)
                obtain ⟨ad1156, e1156, hx1156_0⟩ := Kd.at_int (Kd.R_reads' HO_9.out).2.2 x13_2 p1156 q1156
                cases e1156
                replace p1156 := eq_true p1156
                replace q1156 := eq_true q1156
                have p1157 : 0 ≤ ((rd t1151 x13_2) : Int) := of_decide_eq_true (by first | (with_reducible assumption) | assumption)
                have q1157 : (rd t1151 x13_2) < (l0_1.length : Int) := of_decide_eq_true (by first | (with_reducible assumption) | assumption)
                obtain ⟨ad1157, e1157, hx1157_0⟩ := Kd.at_int HR0_1.out (rd t1151 x13_2) p1157 q1157
                cases e1157
                replace hx1157_0 := (HB.out.cell (World.block_lt_of_cell? w _ hx1157_0)).trans hx1157_0
                replace p1157 := eq_true p1157
                replace q1157 := eq_true q1157
                go_wp2
                repeat (go_quiet (fail); try go_wp2)
                go_roundg k2
                case measure => have := HK1.out; have := HK2.out; omega
                case rel => exact ⟨(Int.tmod (wrap64 (x12_2 * (rd l0_1 (rd t1151 x13_2)))) a0_0), (wrap64 (x13_2 + 1)), (ZqS), (ZqS), H', ⟨by have := HK1.out; have := HK2.out; omega⟩, ⟨ZR HO_9⟩, ⟨ZK BK1146⟩, ⟨ZB⟩⟩
              ·rw [if_neg c30] at H
               exact absurd H (by simp)
             ·rw [if_neg c29] at H
              exact absurd H (by simp)
            ·rw [if_neg c28] at H
             exact absurd H (by simp)
           ·rw [if_neg c27] at H
            have c27b0 : ((bt a1 x13_2) == 76) = false := beq_eq_false_iff_ne.mpr c27
            have c27b1 : ((bt a1 x13_2) != 76) = true := bne_iff_ne.mpr c27
            by_cases c33 : (bt a1 x13_2) = 68
            ·rw [if_pos c33] at H
             have c33b0 : ((bt a1 x13_2) == 68) = true := beq_iff_eq.mpr c33
             have c33b1 : ((bt a1 x13_2) != 68) = false := bne_eq_false_iff_eq.mpr c33
             clear c33
             by_cases c34 : x13_2 < (t1151.length : Int)
             ·rw [if_pos c34] at H
              have c34b0 : decide (x13_2 < (t1151.length : Int)) = true := decide_eq_true c34
              clear c34
              by_cases c35 : 0 ≤ (rd t1151 x13_2)
              ·rw [if_pos c35] at H
               have c35b0 : decide (0 ≤ (rd t1151 x13_2)) = true := decide_eq_true c35
               clear c35
               by_cases c36 : (rd t1151 x13_2) < (l0_2.length : Int)
               ·rw [if_pos c36] at H
                have c36b0 : decide ((rd t1151 x13_2) < (l0_2.length : Int)) = true := decide_eq_true c36
                clear c36
                by_cases c37 : a0_0 = 0
                ·rw [if_pos c37] at H
                 exact absurd H (by simp)
                ·rw [if_neg c37] at H
                 have c37b0 : (a0_0 == 0) = false := beq_eq_false_iff_ne.mpr c37
                 have c37b1 : (a0_0 != 0) = true := bne_iff_ne.mpr c37
                 have H' := Aside0.mk H
                 clear H
                 have p26 : 0 ≤ (x13_2 : Int) := of_decide_eq_true (by first | (with_reducible assumption) | assumption)
                 have q26 : x13_2 < (a1.size : Int) := of_decide_eq_true (by first | (with_reducible assumption) | assumption)
                 have hx26 := bt_at a1 x13_2
                 replace p26 := eq_true p26
                 replace q26 := eq_true q26
                 obtain ⟨hcz38_0, hcz38_1, hcz38_2, hfz38_0, hfz38_1, hfz38_2⟩ := ZD3 BK1146
                 have p1158 : 0 ≤ (x13_2 : Int) := of_decide_eq_true (by first | (with_reducible assumption) | assumption)
                 have q1158 : x13_2 < (t1151.length : Int) := of_decide_eq_true (by first | (with_reducible assumption) | assumption)
                 obtain ⟨ad1158, e1158, hx1158_0⟩ := Kd.at_int (Kd.R_reads' HO_9.out).2.2 x13_2 p1158 q1158
                 cases e1158
                 replace p1158 := eq_true p1158
                 replace q1158 := eq_true q1158
                 have p1159 : 0 ≤ ((rd t1151 x13_2) : Int) := of_decide_eq_true (by first | (with_reducible assumption) | assumption)
                 have q1159 : (rd t1151 x13_2) < (l0_2.length : Int) := of_decide_eq_true (by first | (with_reducible assumption) | assumption)
                 obtain ⟨ad1159, e1159, hx1159_0⟩ := Kd.at_int HR0_2.out (rd t1151 x13_2) p1159 q1159
                 cases e1159
                 replace hx1159_0 := (HB.out.cell (World.block_lt_of_cell? w _ hx1159_0)).trans hx1159_0
                 replace p1159 := eq_true p1159
                 replace q1159 := eq_true q1159
                 go_wp2
                 repeat (go_quiet (fail); try go_wp2)
                 go_roundg k2
                 case measure => have := HK1.out; have := HK2.out; omega
                 case rel => exact ⟨(Int.tmod (wrap64 (x12_2 * (rd l0_2 (rd t1151 x13_2)))) a0_0), (wrap64 (x13_2 + 1)), (ZqS), (ZqS), H', ⟨by have := HK1.out; have := HK2.out; omega⟩, ⟨ZR HO_9⟩, ⟨ZK BK1146⟩, ⟨ZB⟩⟩
               ·rw [if_neg c36] at H
                exact absurd H (by simp)
              ·rw [if_neg c35] at H
               exact absurd H (by simp)
             ·rw [if_neg c34] at H
              exact absurd H (by simp)
            ·rw [if_neg c33] at H
             have c33b0 : ((bt a1 x13_2) == 68) = false := beq_eq_false_iff_ne.mpr c33
             have c33b1 : ((bt a1 x13_2) != 68) = true := bne_iff_ne.mpr c33
             have H' := Aside0.mk H
             clear H
             have p26 : 0 ≤ (x13_2 : Int) := of_decide_eq_true (by first | (with_reducible assumption) | assumption)
             have q26 : x13_2 < (a1.size : Int) := of_decide_eq_true (by first | (with_reducible assumption) | assumption)
             have hx26 := bt_at a1 x13_2
             replace p26 := eq_true p26
             replace q26 := eq_true q26
             go_wp2
             repeat (go_quiet (fail); try go_wp2)
             go_roundg k2
             case measure => have := HK1.out; have := HK2.out; omega
             case rel => exact ⟨(x12_2), (wrap64 (x13_2 + 1)), (ZqS), (ZqS), H', ⟨by have := HK1.out; have := HK2.out; omega⟩, ⟨ZR HO_9⟩, ⟨ZK BK1146⟩, ⟨ZB⟩⟩
          ·rw [if_neg c25] at H
           exact absurd H (by simp)
         ·rw [if_neg c24] at H
          have c24b0 : decide (x13_2 < (a1.size : Int)) = false := decide_eq_false c24
          clear c24
          simp only [Option.some.injEq, Prod.mk.injEq] at H
          obtain ⟨rfl, rfl⟩ := H
          go_wp2
          repeat (go_quiet (fail); try go_wp2)
          go_ret2
          exact ⟨ZqR, ZB⟩
     ·replace c20 := Bool.eq_false_iff.mpr c20
      subst c20
      rw [if_neg (show ¬ (false = true) by decide)] at H
      simp only [Option.some.injEq, Prod.mk.injEq] at H
      obtain ⟨rfl, rfl⟩ := H
      obtain ⟨Ao39, co39, eo39⟩ := Kd.R_slice HO_9.out
      subst eo39
      go_wp2
      repeat (go_quiet (fail); try go_wp2)
      go_ret2
      exact ⟨ZqR, ZB⟩
 ·rw [if_neg c5] at H
  have c5b0 : (t1150 == 0) = false := beq_eq_false_iff_ne.mpr c5
  have c5b1 : (t1150 != 0) = true := bne_iff_ne.mpr c5
  simp only [Option.some.injEq, Prod.mk.injEq] at H
  obtain ⟨rfl, rfl⟩ := H
  go_enter Try.func39, Try.ntmps39
  go_wp2_with (first | ((with_reducible refine gate_dst (N := 3) rfl ?_); (try (refine gate_guard (by rfl) ?_; dsimp only)); refine box_event ?hg (N := 3) ?hd (cs := #[.int .i64 a0_0, .slice A0_1 l0_1.length c0_1, .slice A0_2 l0_2.length c0_2]) (t := 26) ?hr ?_; (case hd => rfl); (case hg => rfl); (case hr => exact ZqT); intro gb1146 hg w40 hbox hb; have n0_ := Aside0.mk (below_step ZB hb); have n1_ := Aside0.mk (hbox); have n2_ := Aside0.mk ((ZG hg : w.heap.size ≤ gb1146)); have n3_ := Aside0.mk ((ZG hg : w.heap.size ≤ gb1146)); clear HB; have HB := n0_; have BK1146 := n1_; have GW1146 := n2_; have GE1146 := n3_; clear n0_ n1_ n2_ n3_; clear hb hbox hg; obtain ⟨hcz41_0, hcz41_1, hcz41_2, hfz41_0, hfz41_1, hfz41_2⟩ := ZD3 BK1146) | ((with_reducible refine gate_dst (N := 16) rfl ?_); (try (refine gate_guard (by rfl) ?_; dsimp only)); refine Kd.R_lit (Kd.int .i64) _ 2 ?hg (N := 16) ?hd (xs := ([a2] : List Int)) (inner := [.int .i64 a2]) (ok := fun _ => True) (okp := fun _ => True) ?hr ?hp (fun _ hk => hk) trivial (Below.refl _ _) (Nat.le_refl _) (by simp) ?_; (case hd => rfl); (case hg => rfl); (case hr => exact ZqT); (case hp => exact (Reps.one (show Kd.M (Kd.int .i64) _ _ _ a2 [.int .i64 a2] from rfl) (Reps.none _ _))); intro v1148 w42 ho43 hb hg_ hnew_; clear hg_ hnew_; (first | rw [← Ny1147.out] at ho43 | (simp only [Int.reduceToNat] at ho43; rw [← Ny1147.out] at ho43)); have n0_ := Aside0.mk (Kd.R_lower ho43 (below_size ZB)); have n1_ := ZL BK1146 hb; have n2_ := Aside0.mk (below_step ZB hb); clear BK1146 HB; have HO1149 := n0_; have BK1146 := n1_; have HB := n2_; clear n0_ n1_ n2_; clear hb ho43; obtain ⟨Ao44, co44, eo44⟩ := Kd.R_slice HO1149.out; subst eo44) | (go_at_call 151; (with_reducible refine (spec_l09Code.calls k a0_0 _ _ l0_1 _ _ l0_2 0 _ _ y1147 t1150 _ ?side1 ?side2 ?side3 ?side4 ?side5 ?side6 A4.out).mono ?_); (case side1 => exact ZC HR0_1); (case side2 => exact HC0_1.out); (case side3 => exact ZC HR0_2); (case side4 => exact HC0_2.out); (case side5 => exact ZqC ((Kd.R_reads' HO1149.out).2.2)); (case side6 => exact (Kd.R_reads' HO1149.out).2.1); rintro e w45 ⟨rfl, hb⟩; have n0_ := Aside0.mk (Kd.R_below (ZR HO1149) hb); have n1_ := ZL BK1146 hb; have n2_ := Aside0.mk (below_step ZB hb); clear HO1149 BK1146 HB; have HO1149 := n0_; have BK1146 := n1_; have HB := n2_; clear n0_ n1_ n2_; (try clear hb)))
  repeat (go_quiet (first | ((with_reducible refine gate_dst (N := 3) rfl ?_); (try (refine gate_guard (by rfl) ?_; dsimp only)); refine box_event ?hg (N := 3) ?hd (cs := #[.int .i64 a0_0, .slice A0_1 l0_1.length c0_1, .slice A0_2 l0_2.length c0_2]) (t := 26) ?hr ?_; (case hd => rfl); (case hg => rfl); (case hr => exact ZqT); intro gb1146 hg w40 hbox hb; have n0_ := Aside0.mk (below_step ZB hb); have n1_ := Aside0.mk (hbox); have n2_ := Aside0.mk ((ZG hg : w.heap.size ≤ gb1146)); have n3_ := Aside0.mk ((ZG hg : w.heap.size ≤ gb1146)); clear HB; have HB := n0_; have BK1146 := n1_; have GW1146 := n2_; have GE1146 := n3_; clear n0_ n1_ n2_ n3_; clear hb hbox hg; obtain ⟨hcz41_0, hcz41_1, hcz41_2, hfz41_0, hfz41_1, hfz41_2⟩ := ZD3 BK1146) | ((with_reducible refine gate_dst (N := 16) rfl ?_); (try (refine gate_guard (by rfl) ?_; dsimp only)); refine Kd.R_lit (Kd.int .i64) _ 2 ?hg (N := 16) ?hd (xs := ([a2] : List Int)) (inner := [.int .i64 a2]) (ok := fun _ => True) (okp := fun _ => True) ?hr ?hp (fun _ hk => hk) trivial (Below.refl _ _) (Nat.le_refl _) (by simp) ?_; (case hd => rfl); (case hg => rfl); (case hr => exact ZqT); (case hp => exact (Reps.one (show Kd.M (Kd.int .i64) _ _ _ a2 [.int .i64 a2] from rfl) (Reps.none _ _))); intro v1148 w42 ho43 hb hg_ hnew_; clear hg_ hnew_; (first | rw [← Ny1147.out] at ho43 | (simp only [Int.reduceToNat] at ho43; rw [← Ny1147.out] at ho43)); have n0_ := Aside0.mk (Kd.R_lower ho43 (below_size ZB)); have n1_ := ZL BK1146 hb; have n2_ := Aside0.mk (below_step ZB hb); clear BK1146 HB; have HO1149 := n0_; have BK1146 := n1_; have HB := n2_; clear n0_ n1_ n2_; clear hb ho43; obtain ⟨Ao44, co44, eo44⟩ := Kd.R_slice HO1149.out; subst eo44) | (go_at_call 151; (with_reducible refine (spec_l09Code.calls k a0_0 _ _ l0_1 _ _ l0_2 0 _ _ y1147 t1150 _ ?side1 ?side2 ?side3 ?side4 ?side5 ?side6 A4.out).mono ?_); (case side1 => exact ZC HR0_1); (case side2 => exact HC0_1.out); (case side3 => exact ZC HR0_2); (case side4 => exact HC0_2.out); (case side5 => exact ZqC ((Kd.R_reads' HO1149.out).2.2)); (case side6 => exact (Kd.R_reads' HO1149.out).2.1); rintro e w45 ⟨rfl, hb⟩; have n0_ := Aside0.mk (Kd.R_below (ZR HO1149) hb); have n1_ := ZL BK1146 hb; have n2_ := Aside0.mk (below_step ZB hb); clear HO1149 BK1146 HB; have HO1149 := n0_; have BK1146 := n1_; have HB := n2_; clear n0_ n1_ n2_; (try clear hb))); try go_wp2_with (first | ((with_reducible refine gate_dst (N := 3) rfl ?_); (try (refine gate_guard (by rfl) ?_; dsimp only)); refine box_event ?hg (N := 3) ?hd (cs := #[.int .i64 a0_0, .slice A0_1 l0_1.length c0_1, .slice A0_2 l0_2.length c0_2]) (t := 26) ?hr ?_; (case hd => rfl); (case hg => rfl); (case hr => exact ZqT); intro gb1146 hg w40 hbox hb; have n0_ := Aside0.mk (below_step ZB hb); have n1_ := Aside0.mk (hbox); have n2_ := Aside0.mk ((ZG hg : w.heap.size ≤ gb1146)); have n3_ := Aside0.mk ((ZG hg : w.heap.size ≤ gb1146)); clear HB; have HB := n0_; have BK1146 := n1_; have GW1146 := n2_; have GE1146 := n3_; clear n0_ n1_ n2_ n3_; clear hb hbox hg; obtain ⟨hcz41_0, hcz41_1, hcz41_2, hfz41_0, hfz41_1, hfz41_2⟩ := ZD3 BK1146) | ((with_reducible refine gate_dst (N := 16) rfl ?_); (try (refine gate_guard (by rfl) ?_; dsimp only)); refine Kd.R_lit (Kd.int .i64) _ 2 ?hg (N := 16) ?hd (xs := ([a2] : List Int)) (inner := [.int .i64 a2]) (ok := fun _ => True) (okp := fun _ => True) ?hr ?hp (fun _ hk => hk) trivial (Below.refl _ _) (Nat.le_refl _) (by simp) ?_; (case hd => rfl); (case hg => rfl); (case hr => exact ZqT); (case hp => exact (Reps.one (show Kd.M (Kd.int .i64) _ _ _ a2 [.int .i64 a2] from rfl) (Reps.none _ _))); intro v1148 w42 ho43 hb hg_ hnew_; clear hg_ hnew_; (first | rw [← Ny1147.out] at ho43 | (simp only [Int.reduceToNat] at ho43; rw [← Ny1147.out] at ho43)); have n0_ := Aside0.mk (Kd.R_lower ho43 (below_size ZB)); have n1_ := ZL BK1146 hb; have n2_ := Aside0.mk (below_step ZB hb); clear BK1146 HB; have HO1149 := n0_; have BK1146 := n1_; have HB := n2_; clear n0_ n1_ n2_; clear hb ho43; obtain ⟨Ao44, co44, eo44⟩ := Kd.R_slice HO1149.out; subst eo44) | (go_at_call 151; (with_reducible refine (spec_l09Code.calls k a0_0 _ _ l0_1 _ _ l0_2 0 _ _ y1147 t1150 _ ?side1 ?side2 ?side3 ?side4 ?side5 ?side6 A4.out).mono ?_); (case side1 => exact ZC HR0_1); (case side2 => exact HC0_1.out); (case side3 => exact ZC HR0_2); (case side4 => exact HC0_2.out); (case side5 => exact ZqC ((Kd.R_reads' HO1149.out).2.2)); (case side6 => exact (Kd.R_reads' HO1149.out).2.1); rintro e w45 ⟨rfl, hb⟩; have n0_ := Aside0.mk (Kd.R_below (ZR HO1149) hb); have n1_ := ZL BK1146 hb; have n2_ := Aside0.mk (below_step ZB hb); clear HO1149 BK1146 HB; have HO1149 := n0_; have BK1146 := n1_; have HB := n2_; clear n0_ n1_ n2_; (try clear hb))))
  go_ret2
  exact ⟨ZqR, ZB⟩

/-! ### spec_DrawCountPaths: function 40 -/
def spec_DrawCountPaths.f (k : Nat) (l0 : List Int) : Option (Int × Int × Int × Int) := (spec_l01From.f k l0).bind fun bt1160 => ((spec_l01Pick.f bt1160.1 bt1160.2.1 bt1160.2.2 (([6, 12, 24] : List Int))).bind fun bt1167 => ((spec_l09Numbers.f bt1160.1 bt1167.2.1 bt1167.2.2 bt1167.1).bind fun bt1170 => (some (bt1170.1, bt1170.2.1, bt1170.2.2.1, bt1170.2.2.2.1))))
theorem spec_DrawCountPaths.mono : ∀ a0 k, LeO (spec_DrawCountPaths.f k a0) (spec_DrawCountPaths.f (k + 1) a0) := by
 intro a0 k
 unfold spec_DrawCountPaths.f
 repeat' first
   | (with_reducible exact spec_l01From.mono _ _)
   | (with_reducible exact LeO.refl _)
   | (with_reducible exact LeO.none _)
   | (with_reducible refine LeO.ite ?_ ?_)
   | (with_reducible refine LeO.bind ?_ (fun _ => ?_))
   | exact spec_l01From.mono _ _
   | exact LeO.none _
   | refine LeO.ite ?_ ?_
   | refine LeO.bind ?_ (fun _ => ?_)
set_option maxHeartbeats 8000000 in
set_option maxRecDepth 100000 in
theorem spec_DrawCountPaths.calls (k : Nat) (A0 : Option Addr) (c0 : Nat) (l0 : List Int) (r1 : Int) (r2 : Int) (r3 : Int) (r4 : Int) (w : World) (hr0 : Kd.C (Kd.int .u8) w A0 l0.length l0) (hc0 : l0.length ≤ c0) (h : spec_DrawCountPaths.f k l0 = some (r1, r2, r3, r4)) :
  Calls Try.prog 40 #[.slice A0 l0.length c0] w fun e w' => e = .returned (.tuple #[.int .i64 r1, .int .i64 r2, .int .i64 r3, .int .i64 r4]) ∧ Below w.heap.size w w' := by
 have HR0 := Aside0.mk hr0
 have HC0 := Aside0.mk hc0
 clear hr0 hc0
 have HB := Aside0.mk (Below.refl w.heap.size w)
 have H : ((spec_l01From.f k l0).bind fun bt1160 => ((spec_l01Pick.f bt1160.1 bt1160.2.1 bt1160.2.2 (([6, 12, 24] : List Int))).bind fun bt1167 => ((spec_l09Numbers.f bt1160.1 bt1167.2.1 bt1167.2.2 bt1167.1).bind fun bt1170 => (some (bt1170.1, bt1170.2.1, bt1170.2.2.1, bt1170.2.2.2.1))))) = some (r1, r2, r3, r4) := h
 clear h
 replace H := Option.bind_eq_some_iff.mp H
 obtain ⟨⟨t1160, t1161, t1162⟩, A20, H⟩ := H
 try dsimp only at H
 have A2 := Aside0.mk A20
 clear A20
 obtain ⟨y1164, hy1164⟩ : ∃ y_ : List Int, y_ = (([6, 12, 24] : List Int)) := ⟨_, rfl⟩
 replace H : ((spec_l01Pick.f t1160 t1161 t1162 y1164).bind fun bt1167 => ((spec_l09Numbers.f t1160 bt1167.2.1 bt1167.2.2 bt1167.1).bind fun bt1170 => (some (bt1170.1, bt1170.2.1, bt1170.2.2.1, bt1170.2.2.2.1)))) = some (r1, r2, r3, r4) := by have hq_ := hy1164; exact ZqH
 have Ny1164 := Aside0.mk hy1164
 clear hy1164
 replace H := Option.bind_eq_some_iff.mp H
 obtain ⟨⟨t1167, t1168, t1169⟩, A30, H⟩ := H
 try dsimp only at H
 have A3 := Aside0.mk A30
 clear A30
 replace H := Option.bind_eq_some_iff.mp H
 obtain ⟨⟨t1170, t1171, t1172, t1173, t1174, t1175⟩, A40, H⟩ := H
 try dsimp only at H
 have A4 := Aside0.mk A40
 clear A40
 simp only [Option.some.injEq, Prod.mk.injEq] at H
 obtain ⟨rfl, rfl, rfl, rfl⟩ := H
 go_enter Try.func40, Try.ntmps40
 go_wp2_with (first | ((with_reducible refine gate_callee (f := 121) rfl ?_); refine goesL_ (some 12) rfl rfl Try.func121 (by kernel_rfl) rfl #[.slice A0 l0.length c0] rfl ZA ?_; (with_reducible refine (spec_l01From.calls k _ _ l0 t1160 t1161 t1162 w _ ?side1 ?side2 ?side3 A2.out).mono ?_); (case side1 => exact Zq31); (case side2 => exact HR0.out); (case side3 => exact HC0.out); rintro e w5 ⟨g1163, rfl, hi, hb, hb2⟩; refine ⟨_, rfl, ?_⟩; have n0_ := Aside0.mk (hb); have n1_ := Aside0.mk (hi); clear HB; have HB := n0_; have HI1163 := n1_; clear n0_ n1_; (try clear hb); (try clear hb2); (try clear hi)) | ((with_reducible refine gate_dst (N := 16) rfl ?_); refine Kd.R_lit (Kd.int .i64) _ 2 ?hg (N := 16) ?hd (xs := ([6, 12, 24] : List Int)) (inner := [.int .i64 6, .int .i64 12, .int .i64 24]) (ok := fun _ => True) (okp := fun _ => True) ?hr ?hp (fun _ hk => hk) trivial (Below.refl _ _) (Nat.le_refl _) (by simp) ?_; (case hd => rfl); (case hg => rfl); (case hr => exact ZqT); (case hp => exact (Reps.one (show Kd.M (Kd.int .i64) _ _ _ 6 [.int .i64 6] from rfl) (Reps.one (show Kd.M (Kd.int .i64) _ _ _ 12 [.int .i64 12] from rfl) (Reps.one (show Kd.M (Kd.int .i64) _ _ _ 24 [.int .i64 24] from rfl) (Reps.none _ _))))); intro v1165 w6 ho7 hb hg_ hnew_; clear hg_ hnew_; (first | rw [← Ny1164.out] at ho7 | (simp only [Int.reduceToNat] at ho7; rw [← Ny1164.out] at ho7)); have n0_ := Aside0.mk (Kd.R_lower ho7 (below_size (by exact Zq49))); have n1_ := Aside0.mk (IsS176.below (by exact Zq50) hb); have n2_ := Aside0.mk (below_step (by exact Zq49) hb); clear HI1163 HB; have HO1166 := n0_; have HI1163 := n1_; have HB := n2_; clear n0_ n1_ n2_; clear hb ho7; obtain ⟨Ao8, co8, eo8⟩ := Kd.R_slice HO1166.out; subst eo8) | ((with_reducible refine gate_callee (f := 136) rfl ?_); refine goesL_ (some 17) rfl rfl Try.func136 (by kernel_rfl) rfl #[.pointer (some ⟨g1163, 0, none⟩), .slice Ao8 y1164.length co8] rfl ZA ?_; (with_reducible refine (spec_l01Pick.calls g1163 t1160 t1161 t1162 _ _ y1164 t1167 t1168 t1169 w _ ?side1 ?side2 ?side3 ?side4 ?side5 A3.out).mono ?_); (case side1 => exact Zq50); (case side2 => exact Zq49); (case side3 => exact ZqC ((Kd.R_reads' HO1166.out).2.2)); (case side4 => exact (Kd.R_reads' HO1166.out).2.1); (case side5 => exact far_slice (IsS176.own_ne HI1163.out HO1166.out (by decide))); rintro e w9 ⟨rfl, hi, hb, hk⟩; refine ⟨_, rfl, ?_⟩; have n0_ := Aside0.mk (Kd.R_mono (Kd.R_keep (IsS176.apart (show IsS176 w _ g1163 t1160 t1161 t1162 from by exact Zq50) (ZR HO1166) (by decide)) hk (fun _ h => h.2)) (fun _ h => h.1)); have n1_ := Aside0.mk (hb); have n2_ := Aside0.mk (hi); clear HO1166 HB HI1163; have HO1166 := n0_; have HB := n1_; have HI1163 := n2_; clear n0_ n1_ n2_; (try clear hb); (try clear hk); (try clear hi)) | ((with_reducible refine gate_callee (f := 135) rfl ?_); refine goesL_ (some 18) rfl rfl Try.func135 (by kernel_rfl) rfl #[.pointer (some ⟨g1163, 0, none⟩), .int .i64 t1167] rfl ZA ?_; (with_reducible refine (spec_l09Numbers.calls g1163 t1160 t1168 t1169 t1167 t1170 t1171 t1172 t1173 t1174 t1175 w _ ?side1 ?side2 A4.out).mono ?_); (case side1 => exact Zq50); (case side2 => exact Zq49); rintro e w10 ⟨rfl, hi, hb, hk⟩; refine ⟨_, rfl, ?_⟩; have n0_ := Aside0.mk (Kd.R_mono (Kd.R_keep (IsS176.apart (show IsS176 w _ g1163 t1160 t1168 t1169 from by exact Zq50) (ZR HO1166) (by decide)) hk (fun _ h => h.2)) (fun _ h => h.1)); have n1_ := Aside0.mk (hb); have n2_ := Aside0.mk (hi); clear HO1166 HB HI1163; have HO1166 := n0_; have HB := n1_; have HI1163 := n2_; clear n0_ n1_ n2_; (try clear hb); (try clear hk); (try clear hi)))
 refine bodyPost_ret (results_list (rs := [.tmp 2, .tmp 3, .tmp 4, .tmp 5]) rfl (by simp) (.tmp (.tmp (.tmp (.tmp .nil))))) rfl ?_
 exact ⟨ZqR, by exact Zq49⟩

/-! ### spec_CountPaths: function 41 -/
def spec_CountPaths.f (k : Nat) (a0 : Int) (a1 : Int) (a2 : Int) (a3 : Int) : Option (Int × Int) := (spec_l09Given.f a0 a1 a2 a3).bind fun t1176 => (if t1176 = true then ((spec_l09Count.f k a0 a1 a2 a3 false).bind fun t1177 => (some (t1177, 0))) else (some (0, 2)))
theorem spec_CountPaths.mono : ∀ a0 a1 a2 a3 k, LeO (spec_CountPaths.f k a0 a1 a2 a3) (spec_CountPaths.f (k + 1) a0 a1 a2 a3) := by
 intro a0 a1 a2 a3 k
 unfold spec_CountPaths.f
 repeat' first
   | (with_reducible exact spec_l09Count.mono _ _ _ _ _ _)
   | (with_reducible exact LeO.refl _)
   | (with_reducible exact LeO.none _)
   | (with_reducible refine LeO.ite ?_ ?_)
   | (with_reducible refine LeO.bind ?_ (fun _ => ?_))
   | exact spec_l09Count.mono _ _ _ _ _ _
   | exact LeO.none _
   | refine LeO.ite ?_ ?_
   | refine LeO.bind ?_ (fun _ => ?_)
set_option maxHeartbeats 8000000 in
set_option maxRecDepth 100000 in
theorem spec_CountPaths.calls (k : Nat) (a0 : Int) (a1 : Int) (a2 : Int) (a3 : Int) (r1 : Int) (r2 : Int) (w : World) (h : spec_CountPaths.f k a0 a1 a2 a3 = some (r1, r2)) :
  Calls Try.prog 41 #[.int .i64 a0, .int .i64 a1, .int .i64 a2, .int .i64 a3] w fun e w' => e = .returned (.tuple #[.int .i64 r1, .int .i64 r2]) ∧ Below w.heap.size w w' := by
 have HB := Aside0.mk (Below.refl w.heap.size w)
 have H : ((spec_l09Given.f a0 a1 a2 a3).bind fun t1176 => (if t1176 = true then ((spec_l09Count.f k a0 a1 a2 a3 false).bind fun t1177 => (some (t1177, 0))) else (some (0, 2)))) = some (r1, r2) := h
 clear h
 replace H := Option.bind_eq_some_iff.mp H
 obtain ⟨t1176, A50, H⟩ := H
 try dsimp only at H
 have A5 := Aside0.mk A50
 clear A50
 by_cases c6 : t1176 = true
 ·subst c6
  rw [if_pos rfl] at H
  replace H := Option.bind_eq_some_iff.mp H
  obtain ⟨t1177, A70, H⟩ := H
  try dsimp only at H
  have A7 := Aside0.mk A70
  clear A70
  simp only [Option.some.injEq, Prod.mk.injEq] at H
  obtain ⟨rfl, rfl⟩ := H
  go_enter Try.func41, Try.ntmps41
  go_wp2_with (first | ((with_reducible refine gate_callee (f := 140) rfl ?_); refine goesL_ (some 14) rfl rfl Try.func140 (by kernel_rfl) rfl #[.int .i64 a0, .int .i64 a1, .int .i64 a2, .int .i64 a3] rfl ZA ?_; (with_reducible refine (spec_l09Given.calls a0 a1 a2 a3 true _ A5.out).mono ?_); rintro e w' ⟨rfl, ⟨nd, rfl⟩⟩; refine ⟨_, rfl, ?_⟩) | ((with_reducible refine gate_callee (f := 141) rfl ?_); refine goesL_ (some 20) rfl rfl Try.func141 (by kernel_rfl) rfl #[.int .i64 a0, .int .i64 a1, .int .i64 a2, .int .i64 a3, .bool false] rfl ZA ?_; (with_reducible refine (spec_l09Count.calls k a0 a1 a2 a3 false t1177 _ A7.out).mono ?_); rintro e w8 ⟨rfl, hb⟩; refine ⟨_, rfl, ?_⟩; have n0_ := Aside0.mk (below_step ZB hb); clear HB; have HB := n0_; clear n0_; (try clear hb)))
  go_ret2
  exact ⟨ZqR, ZB⟩
 ·replace c6 := Bool.eq_false_iff.mpr c6
  subst c6
  rw [if_neg (show ¬ (false = true) by decide)] at H
  simp only [Option.some.injEq, Prod.mk.injEq] at H
  obtain ⟨rfl, rfl⟩ := H
  go_enter Try.func41, Try.ntmps41
  go_wp2_with (first | ((with_reducible refine gate_callee (f := 140) rfl ?_); refine goesL_ (some 14) rfl rfl Try.func140 (by kernel_rfl) rfl #[.int .i64 a0, .int .i64 a1, .int .i64 a2, .int .i64 a3] rfl ZA ?_; (with_reducible refine (spec_l09Given.calls a0 a1 a2 a3 false _ A5.out).mono ?_); rintro e w' ⟨rfl, ⟨nd, rfl⟩⟩; refine ⟨_, rfl, ?_⟩))
  go_ret2
  exact ⟨ZqR, ZB⟩

/-! ### spec_DrawCountLevelPaths: function 42 -/
def spec_DrawCountLevelPaths.f (k : Nat) (l0 : List Int) : Option (Int × Int × Int × Int) := (spec_l01From.f k l0).bind fun bt1178 => ((spec_l01Pick.f bt1178.1 bt1178.2.1 bt1178.2.2 (([6, 12, 24] : List Int))).bind fun bt1185 => ((spec_l09Numbers.f bt1178.1 bt1185.2.1 bt1185.2.2 bt1185.1).bind fun bt1188 => (some (bt1188.1, bt1188.2.1, bt1188.2.2.1, bt1188.2.2.2.1))))
theorem spec_DrawCountLevelPaths.mono : ∀ a0 k, LeO (spec_DrawCountLevelPaths.f k a0) (spec_DrawCountLevelPaths.f (k + 1) a0) := by
 intro a0 k
 unfold spec_DrawCountLevelPaths.f
 repeat' first
   | (with_reducible exact spec_l01From.mono _ _)
   | (with_reducible exact LeO.refl _)
   | (with_reducible exact LeO.none _)
   | (with_reducible refine LeO.ite ?_ ?_)
   | (with_reducible refine LeO.bind ?_ (fun _ => ?_))
   | exact spec_l01From.mono _ _
   | exact LeO.none _
   | refine LeO.ite ?_ ?_
   | refine LeO.bind ?_ (fun _ => ?_)
set_option maxHeartbeats 8000000 in
set_option maxRecDepth 100000 in
theorem spec_DrawCountLevelPaths.calls (k : Nat) (A0 : Option Addr) (c0 : Nat) (l0 : List Int) (r1 : Int) (r2 : Int) (r3 : Int) (r4 : Int) (w : World) (hr0 : Kd.C (Kd.int .u8) w A0 l0.length l0) (hc0 : l0.length ≤ c0) (h : spec_DrawCountLevelPaths.f k l0 = some (r1, r2, r3, r4)) :
  Calls Try.prog 42 #[.slice A0 l0.length c0] w fun e w' => e = .returned (.tuple #[.int .i64 r1, .int .i64 r2, .int .i64 r3, .int .i64 r4]) ∧ Below w.heap.size w w' := by
 have HR0 := Aside0.mk hr0
 have HC0 := Aside0.mk hc0
 clear hr0 hc0
 have HB := Aside0.mk (Below.refl w.heap.size w)
 have H : ((spec_l01From.f k l0).bind fun bt1178 => ((spec_l01Pick.f bt1178.1 bt1178.2.1 bt1178.2.2 (([6, 12, 24] : List Int))).bind fun bt1185 => ((spec_l09Numbers.f bt1178.1 bt1185.2.1 bt1185.2.2 bt1185.1).bind fun bt1188 => (some (bt1188.1, bt1188.2.1, bt1188.2.2.1, bt1188.2.2.2.1))))) = some (r1, r2, r3, r4) := h
 clear h
 replace H := Option.bind_eq_some_iff.mp H
 obtain ⟨⟨t1178, t1179, t1180⟩, A20, H⟩ := H
 try dsimp only at H
 have A2 := Aside0.mk A20
 clear A20
 obtain ⟨y1182, hy1182⟩ : ∃ y_ : List Int, y_ = (([6, 12, 24] : List Int)) := ⟨_, rfl⟩
 replace H : ((spec_l01Pick.f t1178 t1179 t1180 y1182).bind fun bt1185 => ((spec_l09Numbers.f t1178 bt1185.2.1 bt1185.2.2 bt1185.1).bind fun bt1188 => (some (bt1188.1, bt1188.2.1, bt1188.2.2.1, bt1188.2.2.2.1)))) = some (r1, r2, r3, r4) := by have hq_ := hy1182; exact ZqH
 have Ny1182 := Aside0.mk hy1182
 clear hy1182
 replace H := Option.bind_eq_some_iff.mp H
 obtain ⟨⟨t1185, t1186, t1187⟩, A30, H⟩ := H
 try dsimp only at H
 have A3 := Aside0.mk A30
 clear A30
 replace H := Option.bind_eq_some_iff.mp H
 obtain ⟨⟨t1188, t1189, t1190, t1191, t1192, t1193⟩, A40, H⟩ := H
 try dsimp only at H
 have A4 := Aside0.mk A40
 clear A40
 simp only [Option.some.injEq, Prod.mk.injEq] at H
 obtain ⟨rfl, rfl, rfl, rfl⟩ := H
 go_enter Try.func42, Try.ntmps42
 go_wp2_with (first | ((with_reducible refine gate_callee (f := 121) rfl ?_); refine goesL_ (some 12) rfl rfl Try.func121 (by kernel_rfl) rfl #[.slice A0 l0.length c0] rfl ZA ?_; (with_reducible refine (spec_l01From.calls k _ _ l0 t1178 t1179 t1180 w _ ?side1 ?side2 ?side3 A2.out).mono ?_); (case side1 => exact Zq31); (case side2 => exact HR0.out); (case side3 => exact HC0.out); rintro e w5 ⟨g1181, rfl, hi, hb, hb2⟩; refine ⟨_, rfl, ?_⟩; have n0_ := Aside0.mk (hb); have n1_ := Aside0.mk (hi); clear HB; have HB := n0_; have HI1181 := n1_; clear n0_ n1_; (try clear hb); (try clear hb2); (try clear hi)) | ((with_reducible refine gate_dst (N := 16) rfl ?_); refine Kd.R_lit (Kd.int .i64) _ 2 ?hg (N := 16) ?hd (xs := ([6, 12, 24] : List Int)) (inner := [.int .i64 6, .int .i64 12, .int .i64 24]) (ok := fun _ => True) (okp := fun _ => True) ?hr ?hp (fun _ hk => hk) trivial (Below.refl _ _) (Nat.le_refl _) (by simp) ?_; (case hd => rfl); (case hg => rfl); (case hr => exact ZqT); (case hp => exact (Reps.one (show Kd.M (Kd.int .i64) _ _ _ 6 [.int .i64 6] from rfl) (Reps.one (show Kd.M (Kd.int .i64) _ _ _ 12 [.int .i64 12] from rfl) (Reps.one (show Kd.M (Kd.int .i64) _ _ _ 24 [.int .i64 24] from rfl) (Reps.none _ _))))); intro v1183 w6 ho7 hb hg_ hnew_; clear hg_ hnew_; (first | rw [← Ny1182.out] at ho7 | (simp only [Int.reduceToNat] at ho7; rw [← Ny1182.out] at ho7)); have n0_ := Aside0.mk (Kd.R_lower ho7 (below_size (by exact Zq51))); have n1_ := Aside0.mk (IsS176.below (by exact Zq52) hb); have n2_ := Aside0.mk (below_step (by exact Zq51) hb); clear HI1181 HB; have HO1184 := n0_; have HI1181 := n1_; have HB := n2_; clear n0_ n1_ n2_; clear hb ho7; obtain ⟨Ao8, co8, eo8⟩ := Kd.R_slice HO1184.out; subst eo8) | ((with_reducible refine gate_callee (f := 136) rfl ?_); refine goesL_ (some 17) rfl rfl Try.func136 (by kernel_rfl) rfl #[.pointer (some ⟨g1181, 0, none⟩), .slice Ao8 y1182.length co8] rfl ZA ?_; (with_reducible refine (spec_l01Pick.calls g1181 t1178 t1179 t1180 _ _ y1182 t1185 t1186 t1187 w _ ?side1 ?side2 ?side3 ?side4 ?side5 A3.out).mono ?_); (case side1 => exact Zq52); (case side2 => exact Zq51); (case side3 => exact ZqC ((Kd.R_reads' HO1184.out).2.2)); (case side4 => exact (Kd.R_reads' HO1184.out).2.1); (case side5 => exact far_slice (IsS176.own_ne HI1181.out HO1184.out (by decide))); rintro e w9 ⟨rfl, hi, hb, hk⟩; refine ⟨_, rfl, ?_⟩; have n0_ := Aside0.mk (Kd.R_mono (Kd.R_keep (IsS176.apart (show IsS176 w _ g1181 t1178 t1179 t1180 from by exact Zq52) (ZR HO1184) (by decide)) hk (fun _ h => h.2)) (fun _ h => h.1)); have n1_ := Aside0.mk (hb); have n2_ := Aside0.mk (hi); clear HO1184 HB HI1181; have HO1184 := n0_; have HB := n1_; have HI1181 := n2_; clear n0_ n1_ n2_; (try clear hb); (try clear hk); (try clear hi)) | ((with_reducible refine gate_callee (f := 135) rfl ?_); refine goesL_ (some 18) rfl rfl Try.func135 (by kernel_rfl) rfl #[.pointer (some ⟨g1181, 0, none⟩), .int .i64 t1185] rfl ZA ?_; (with_reducible refine (spec_l09Numbers.calls g1181 t1178 t1186 t1187 t1185 t1188 t1189 t1190 t1191 t1192 t1193 w _ ?side1 ?side2 A4.out).mono ?_); (case side1 => exact Zq52); (case side2 => exact Zq51); rintro e w10 ⟨rfl, hi, hb, hk⟩; refine ⟨_, rfl, ?_⟩; have n0_ := Aside0.mk (Kd.R_mono (Kd.R_keep (IsS176.apart (show IsS176 w _ g1181 t1178 t1186 t1187 from by exact Zq52) (ZR HO1184) (by decide)) hk (fun _ h => h.2)) (fun _ h => h.1)); have n1_ := Aside0.mk (hb); have n2_ := Aside0.mk (hi); clear HO1184 HB HI1181; have HO1184 := n0_; have HB := n1_; have HI1181 := n2_; clear n0_ n1_ n2_; (try clear hb); (try clear hk); (try clear hi)))
 refine bodyPost_ret (results_list (rs := [.tmp 2, .tmp 3, .tmp 4, .tmp 5]) rfl (by simp) (.tmp (.tmp (.tmp (.tmp .nil))))) rfl ?_
 exact ⟨ZqR, by exact Zq51⟩

/-! ### spec_CountLevelPaths: function 43 -/
def spec_CountLevelPaths.f (k : Nat) (a0 : Int) (a1 : Int) (a2 : Int) (a3 : Int) : Option (Int × Int) := (spec_l09Given.f a0 a1 a2 a3).bind fun t1194 => (if t1194 = true then ((spec_l09Count.f k a0 a1 a2 a3 true).bind fun t1195 => (some (t1195, 0))) else (some (0, 2)))
theorem spec_CountLevelPaths.mono : ∀ a0 a1 a2 a3 k, LeO (spec_CountLevelPaths.f k a0 a1 a2 a3) (spec_CountLevelPaths.f (k + 1) a0 a1 a2 a3) := by
 intro a0 a1 a2 a3 k
 unfold spec_CountLevelPaths.f
 repeat' first
   | (with_reducible exact spec_l09Count.mono _ _ _ _ _ _)
   | (with_reducible exact LeO.refl _)
   | (with_reducible exact LeO.none _)
   | (with_reducible refine LeO.ite ?_ ?_)
   | (with_reducible refine LeO.bind ?_ (fun _ => ?_))
   | exact spec_l09Count.mono _ _ _ _ _ _
   | exact LeO.none _
   | refine LeO.ite ?_ ?_
   | refine LeO.bind ?_ (fun _ => ?_)
set_option maxHeartbeats 8000000 in
set_option maxRecDepth 100000 in
theorem spec_CountLevelPaths.calls (k : Nat) (a0 : Int) (a1 : Int) (a2 : Int) (a3 : Int) (r1 : Int) (r2 : Int) (w : World) (h : spec_CountLevelPaths.f k a0 a1 a2 a3 = some (r1, r2)) :
  Calls Try.prog 43 #[.int .i64 a0, .int .i64 a1, .int .i64 a2, .int .i64 a3] w fun e w' => e = .returned (.tuple #[.int .i64 r1, .int .i64 r2]) ∧ Below w.heap.size w w' := by
 have HB := Aside0.mk (Below.refl w.heap.size w)
 have H : ((spec_l09Given.f a0 a1 a2 a3).bind fun t1194 => (if t1194 = true then ((spec_l09Count.f k a0 a1 a2 a3 true).bind fun t1195 => (some (t1195, 0))) else (some (0, 2)))) = some (r1, r2) := h
 clear h
 replace H := Option.bind_eq_some_iff.mp H
 obtain ⟨t1194, A50, H⟩ := H
 try dsimp only at H
 have A5 := Aside0.mk A50
 clear A50
 by_cases c6 : t1194 = true
 ·subst c6
  rw [if_pos rfl] at H
  replace H := Option.bind_eq_some_iff.mp H
  obtain ⟨t1195, A70, H⟩ := H
  try dsimp only at H
  have A7 := Aside0.mk A70
  clear A70
  simp only [Option.some.injEq, Prod.mk.injEq] at H
  obtain ⟨rfl, rfl⟩ := H
  go_enter Try.func43, Try.ntmps43
  go_wp2_with (first | ((with_reducible refine gate_callee (f := 140) rfl ?_); refine goesL_ (some 14) rfl rfl Try.func140 (by kernel_rfl) rfl #[.int .i64 a0, .int .i64 a1, .int .i64 a2, .int .i64 a3] rfl ZA ?_; (with_reducible refine (spec_l09Given.calls a0 a1 a2 a3 true _ A5.out).mono ?_); rintro e w' ⟨rfl, ⟨nd, rfl⟩⟩; refine ⟨_, rfl, ?_⟩) | ((with_reducible refine gate_callee (f := 141) rfl ?_); refine goesL_ (some 20) rfl rfl Try.func141 (by kernel_rfl) rfl #[.int .i64 a0, .int .i64 a1, .int .i64 a2, .int .i64 a3, .bool true] rfl ZA ?_; (with_reducible refine (spec_l09Count.calls k a0 a1 a2 a3 true t1195 _ A7.out).mono ?_); rintro e w8 ⟨rfl, hb⟩; refine ⟨_, rfl, ?_⟩; have n0_ := Aside0.mk (below_step ZB hb); clear HB; have HB := n0_; clear n0_; (try clear hb)))
  go_ret2
  exact ⟨ZqR, ZB⟩
 ·replace c6 := Bool.eq_false_iff.mpr c6
  subst c6
  rw [if_neg (show ¬ (false = true) by decide)] at H
  simp only [Option.some.injEq, Prod.mk.injEq] at H
  obtain ⟨rfl, rfl⟩ := H
  go_enter Try.func43, Try.ntmps43
  go_wp2_with (first | ((with_reducible refine gate_callee (f := 140) rfl ?_); refine goesL_ (some 14) rfl rfl Try.func140 (by kernel_rfl) rfl #[.int .i64 a0, .int .i64 a1, .int .i64 a2, .int .i64 a3] rfl ZA ?_; (with_reducible refine (spec_l09Given.calls a0 a1 a2 a3 false _ A5.out).mono ?_); rintro e w' ⟨rfl, ⟨nd, rfl⟩⟩; refine ⟨_, rfl, ?_⟩))
  go_ret2
  exact ⟨ZqR, ZB⟩

end Go.Proofs.Ytlodpobegdbhaaa.X
