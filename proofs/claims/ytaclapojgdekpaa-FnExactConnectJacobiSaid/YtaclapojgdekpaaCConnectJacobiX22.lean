/- Contracts of functions that the law reaches, printed by a program of this session; Lean checks them. -/
import Derived.Test.YtaclapojgdekpaaCConnectJacobiX0
import Derived.Test.YtaclapojgdekpaaCConnectJacobiX1
import Derived.Test.YtaclapojgdekpaaCConnectJacobiX16
import Derived.Test.YtaclapojgdekpaaCConnectJacobiX17
import Derived.Test.YtaclapojgdekpaaCConnectJacobiX2
import Derived.Test.YtaclapojgdekpaaCConnectJacobiXZ
namespace Go.Proofs.Ytaclapojgdekpaa.X
open Go.RowKit Go.Proofs.YtaclapojgdekpaaW.PrintWords Go.Proofs.YtaclapojgdekpaaW.PrintLast Go.Proofs.YtaclapojgdekpaaW.PrintMore
attribute [local go_sem] max2_int min2_int max_two min_two max_three min_three max_four min_four   -- for this text's walks alone
set_option linter.unusedVariables false
set_option linter.unusedSimpArgs false

/-! ### spec_l10Code: function 74 -/
def spec_l10Code.l0 : Nat → List Int → Int → Int → List Int → List Int → Option (Int)
 | 0, _, _, _, _, _ => none
 | k + 1, x1, x5, x652000, x652001, x652002 => if x5 < (x1.length : Int) then (if 0 ≤ x5 then ((spec_l01In.f (rd x1 x5) 0 (x652001.length : Int)).bind fun t654 => (if t654 = true then (spec_l10Code.l0 k x1 (wrap64 (x5 + 1)) x652000 x652001 x652002) else (some 2))) else (none)) else (some 0)
def spec_l10Code.f (k : Nat) (a0_0 : Int) (l0_1 : List Int) (l0_2 : List Int) (l1 : List Int) : Option (Int) := (spec_l03Is.f k a0_0 l0_1 l0_2).bind fun t652 => (if t652 = true then (spec_l10Code.l0 k l1 0 a0_0 l0_1 l0_2) else (some 1))
theorem spec_l10Code.mono_l : ∀ k, (∀ y0 y1 y2 y3 y4, LeO (spec_l10Code.l0 k y0 y1 y2 y3 y4) (spec_l10Code.l0 (k + 1) y0 y1 y2 y3 y4))
 | 0 => fun _ _ _ _ _ r h => by simp [spec_l10Code.l0] at h
 | k + 1 => by
  have ih0 := spec_l10Code.mono_l k
  ·intro y0 y1 y2 y3 y4
   unfold spec_l10Code.l0
   repeat' first
   | (with_reducible exact ih0 _ _ _ _ _)
   | (with_reducible exact spec_l03Is.mono _ _ _ _)
   | (with_reducible exact LeO.refl _)
   | (with_reducible exact LeO.none _)
   | (with_reducible refine LeO.ite ?_ ?_)
   | (with_reducible refine LeO.bind ?_ (fun _ => ?_))
   | exact ih0 _ _ _ _ _
   | exact spec_l03Is.mono _ _ _ _
   | exact LeO.none _
   | refine LeO.ite ?_ ?_
   | refine LeO.bind ?_ (fun _ => ?_)
theorem spec_l10Code.mono : ∀ a0 a1 a2 a3 k, LeO (spec_l10Code.f k a0 a1 a2 a3) (spec_l10Code.f (k + 1) a0 a1 a2 a3) := by
 intro a0 a1 a2 a3 k
 have ih0 := spec_l10Code.mono_l k
 unfold spec_l10Code.f
 repeat' first
   | (with_reducible exact ih0 _ _ _ _ _)
   | (with_reducible exact spec_l03Is.mono _ _ _ _)
   | (with_reducible exact LeO.refl _)
   | (with_reducible exact LeO.none _)
   | (with_reducible refine LeO.ite ?_ ?_)
   | (with_reducible refine LeO.bind ?_ (fun _ => ?_))
   | exact ih0 _ _ _ _ _
   | exact spec_l03Is.mono _ _ _ _
   | exact LeO.none _
   | refine LeO.ite ?_ ?_
   | refine LeO.bind ?_ (fun _ => ?_)
set_option maxHeartbeats 8000000 in
set_option maxRecDepth 100000 in
theorem spec_l10Code.calls (k : Nat) (a0_0 : Int) (A0_1 : Option Addr) (c0_1 : Nat) (l0_1 : List Int) (A0_2 : Option Addr) (c0_2 : Nat) (l0_2 : List Int) (A1 : Option Addr) (c1 : Nat) (l1 : List Int) (r : Int) (w : World) (hr0_1 : Kd.C (Kd.int .i64) w A0_1 l0_1.length l0_1) (hc0_1 : l0_1.length ≤ c0_1) (hr0_2 : Kd.C (Kd.int .i64) w A0_2 l0_2.length l0_2) (hc0_2 : l0_2.length ≤ c0_2) (hr1 : Kd.C (Kd.int .i64) w A1 l1.length l1) (hc1 : l1.length ≤ c1) (h : spec_l10Code.f k a0_0 l0_1 l0_2 l1 = some r) :
  Calls Try.prog 74 #[.agg #[.int .i64 a0_0, .slice A0_1 l0_1.length c0_1, .slice A0_2 l0_2.length c0_2], .slice A1 l1.length c1] w fun e w' => e = .returned (.int .i64 r) ∧ Below w.heap.size w w' := by
 have hu29 := Try.underlying29
 have HR0_1 := Aside0.mk hr0_1
 have HC0_1 := Aside0.mk hc0_1
 clear hr0_1 hc0_1
 have HR0_2 := Aside0.mk hr0_2
 have HC0_2 := Aside0.mk hc0_2
 clear hr0_2 hc0_2
 have HR1 := Aside0.mk hr1
 have HC1 := Aside0.mk hc1
 clear hr1 hc1
 have HB := Aside0.mk (Below.refl w.heap.size w)
 have H : ((spec_l03Is.f k a0_0 l0_1 l0_2).bind fun t652 => (if t652 = true then (spec_l10Code.l0 k l1 0 a0_0 l0_1 l0_2) else (some 1))) = some r := h
 clear h
 replace H := Option.bind_eq_some_iff.mp H
 obtain ⟨t652, A30, H⟩ := H
 replace H : (if t652 = true then (spec_l10Code.l0 k l1 0 a0_0 l0_1 l0_2) else (some 1)) = some r := H
 have A3 := Aside0.mk A30
 clear A30
 by_cases c4 : t652 = true
 ·subst c4
  have H1 : (spec_l10Code.l0 k l1 0 a0_0 l0_1 l0_2) = some r := by rw [if_pos rfl] at H; exact H
  clear H
  have H := H1
  clear H1
  have H' := Aside0.mk H
  clear H
  go_enter Try.func74, Try.ntmps74
  go_wp2_with (first | ((with_reducible refine gate_dst (N := 2) rfl ?_); refine box_event ?hg (N := 2) ?hd (cs := #[.int .i64 a0_0, .slice A0_1 l0_1.length c0_1, .slice A0_2 l0_2.length c0_2]) (t := 29) ?hr ?_; (case hd => rfl); (case hg => rfl); (case hr => first | (go_simp; done) | (go_simp; rfl)); intro gb651 hg w5 hbox hb; have n0_ := Aside0.mk (below_step ZB hb); have n1_ := Aside0.mk (hbox); have n2_ := Aside0.mk ((ZG hg : w.heap.size ≤ gb651)); have n3_ := Aside0.mk ((ZG hg : w.heap.size ≤ gb651)); clear HB; have HB := n0_; have BK651 := n1_; have GW651 := n2_; have GE651 := n3_; clear n0_ n1_ n2_ n3_; clear hb hbox hg; obtain ⟨hcz6_0, hcz6_1, hcz6_2, hfz6_0, hfz6_1, hfz6_2⟩ := ZD3 BK651) | (go_at_call 55; (with_reducible refine (spec_l03Is.calls k a0_0 _ _ l0_1 _ _ l0_2 true _ ?side1 ?side2 ?side3 ?side4 A3.out).mono ?_); (case side1 => exact ZC HR0_1); (case side2 => exact HC0_1.out); (case side3 => exact ZC HR0_2); (case side4 => exact HC0_2.out); rintro e w7 ⟨rfl, hb⟩; have n0_ := ZL BK651 hb; have n1_ := Aside0.mk (below_step ZB hb); clear BK651; clear HB; have BK651 := n0_; have HB := n1_; clear n0_ n1_; (try clear hb); (try clear hb2); (try clear hk); (try clear hi)))
  repeat (go_quiet (first | ((with_reducible refine gate_dst (N := 2) rfl ?_); refine box_event ?hg (N := 2) ?hd (cs := #[.int .i64 a0_0, .slice A0_1 l0_1.length c0_1, .slice A0_2 l0_2.length c0_2]) (t := 29) ?hr ?_; (case hd => rfl); (case hg => rfl); (case hr => first | (go_simp; done) | (go_simp; rfl)); intro gb651 hg w5 hbox hb; have n0_ := Aside0.mk (below_step ZB hb); have n1_ := Aside0.mk (hbox); have n2_ := Aside0.mk ((ZG hg : w.heap.size ≤ gb651)); have n3_ := Aside0.mk ((ZG hg : w.heap.size ≤ gb651)); clear HB; have HB := n0_; have BK651 := n1_; have GW651 := n2_; have GE651 := n3_; clear n0_ n1_ n2_ n3_; clear hb hbox hg; obtain ⟨hcz6_0, hcz6_1, hcz6_2, hfz6_0, hfz6_1, hfz6_2⟩ := ZD3 BK651) | (go_at_call 55; (with_reducible refine (spec_l03Is.calls k a0_0 _ _ l0_1 _ _ l0_2 true _ ?side1 ?side2 ?side3 ?side4 A3.out).mono ?_); (case side1 => exact ZC HR0_1); (case side2 => exact HC0_1.out); (case side3 => exact ZC HR0_2); (case side4 => exact HC0_2.out); rintro e w7 ⟨rfl, hb⟩; have n0_ := ZL BK651 hb; have n1_ := Aside0.mk (below_step ZB hb); clear BK651; clear HB; have BK651 := n0_; have HB := n1_; clear n0_ n1_; (try clear hb); (try clear hb2); (try clear hk); (try clear hi))); try go_wp2_with (first | ((with_reducible refine gate_dst (N := 2) rfl ?_); refine box_event ?hg (N := 2) ?hd (cs := #[.int .i64 a0_0, .slice A0_1 l0_1.length c0_1, .slice A0_2 l0_2.length c0_2]) (t := 29) ?hr ?_; (case hd => rfl); (case hg => rfl); (case hr => first | (go_simp; done) | (go_simp; rfl)); intro gb651 hg w5 hbox hb; have n0_ := Aside0.mk (below_step ZB hb); have n1_ := Aside0.mk (hbox); have n2_ := Aside0.mk ((ZG hg : w.heap.size ≤ gb651)); have n3_ := Aside0.mk ((ZG hg : w.heap.size ≤ gb651)); clear HB; have HB := n0_; have BK651 := n1_; have GW651 := n2_; have GE651 := n3_; clear n0_ n1_ n2_ n3_; clear hb hbox hg; obtain ⟨hcz6_0, hcz6_1, hcz6_2, hfz6_0, hfz6_1, hfz6_2⟩ := ZD3 BK651) | (go_at_call 55; (with_reducible refine (spec_l03Is.calls k a0_0 _ _ l0_1 _ _ l0_2 true _ ?side1 ?side2 ?side3 ?side4 A3.out).mono ?_); (case side1 => exact ZC HR0_1); (case side2 => exact HC0_1.out); (case side3 => exact ZC HR0_2); (case side4 => exact HC0_2.out); rintro e w7 ⟨rfl, hb⟩; have n0_ := ZL BK651 hb; have n1_ := Aside0.mk (below_step ZB hb); clear BK651; clear HB; have BK651 := n0_; have HB := n1_; clear n0_ n1_; (try clear hb); (try clear hb2); (try clear hk); (try clear hi))))
  go_loopg [5] k (fun kq v5 w' => ∃ (x5_1 : Int), v5 = .int .i64 x5_1 ∧ Aside0 (spec_l10Code.l0 kq l1 x5_1 a0_0 l0_1 l0_2 = some r) ∧ Aside0 (kq ≤ k) ∧ Aside0 (w'.heap[gb651]? = some (.cells #[.int .i64 a0_0, (.slice A0_1 l0_1.length c0_1), (.slice A0_2 l0_2.length c0_2)] 29 (0, 0))) ∧ Aside0 (Below w.heap.size w w'))
  case atStart => exact ⟨(0), (by first | rfl | (simp; done) | (simp [*]; done)), H', ⟨Nat.le_refl _⟩, ⟨ZK BK651⟩, ⟨ZB⟩⟩
  case round =>
   clear H'
   try clear c1
   try clear p2
   try clear c4
   try clear c7
   try clear hcz6_0
   try clear hcz6_1
   try clear hcz6_2
   try clear hfz6_0
   try clear hfz6_1
   try clear hfz6_2
   obtain ⟨x5_1, rfl, HA, HK1, BK651, HB⟩ := hrel
   cases gk with
   | zero => exact absurd HA.out (by simp [spec_l10Code.l0])
   | succ k1 =>
    have H := HA.out
    clear HA
    simp only [spec_l10Code.l0] at H
    by_cases c8 : x5_1 < (l1.length : Int)
    ·rw [if_pos c8] at H
     have c8b0 : decide (x5_1 < (l1.length : Int)) = true := decide_eq_true c8
     clear c8
     by_cases c9 : 0 ≤ x5_1
     ·rw [if_pos c9] at H
      have c9b0 : decide (0 ≤ x5_1) = true := decide_eq_true c9
      clear c9
      replace H := Option.bind_eq_some_iff.mp H
      obtain ⟨t654, A100, H⟩ := H
      replace H : (if t654 = true then (spec_l10Code.l0 k1 l1 (wrap64 (x5_1 + 1)) a0_0 l0_1 l0_2) else (some 2)) = some r := H
      have A10 := Aside0.mk A100
      clear A100
      by_cases c11 : t654 = true
      ·subst c11
       have H1 : (spec_l10Code.l0 k1 l1 (wrap64 (x5_1 + 1)) a0_0 l0_1 l0_2) = some r := by rw [if_pos rfl] at H; exact H
       clear H
       have H := H1
       clear H1
       have H' := Aside0.mk H
       clear H
       have p653 : 0 ≤ (x5_1 : Int) := of_decide_eq_true (by first | (with_reducible assumption) | assumption)
       have q653 : x5_1 < (l1.length : Int) := of_decide_eq_true (by first | (with_reducible assumption) | assumption)
       obtain ⟨ad653, e653, hx653_0⟩ := Kd.at_int HR1.out x5_1 p653 q653
       cases e653
       replace hx653_0 := (HB.out.cell (World.block_lt_of_cell? w _ hx653_0)).trans hx653_0
       replace p653 := eq_true p653
       replace q653 := eq_true q653
       obtain ⟨hcz12_0, hcz12_1, hcz12_2, hfz12_0, hfz12_1, hfz12_2⟩ := ZD3 BK651
       go_wp2_with (first | (go_at_call 83; (with_reducible refine (spec_l01In.calls (rd l1 x5_1) 0 (l0_1.length : Int) true _ A10.out).mono ?_); rintro e w' ⟨rfl, ⟨nd, rfl⟩⟩; (try first | exact ⟨rfl, _, World.drewN_drewN _ _ _⟩ | exact ⟨rfl, _, Eq.trans (World.drewN_drewN _ _ _) (congrArg (World.drewN _) (Nat.add_assoc _ _ _))⟩)))
       repeat (go_quiet (first | (go_at_call 83; (with_reducible refine (spec_l01In.calls (rd l1 x5_1) 0 (l0_1.length : Int) true _ A10.out).mono ?_); rintro e w' ⟨rfl, ⟨nd, rfl⟩⟩; (try first | exact ⟨rfl, _, World.drewN_drewN _ _ _⟩ | exact ⟨rfl, _, Eq.trans (World.drewN_drewN _ _ _) (congrArg (World.drewN _) (Nat.add_assoc _ _ _))⟩))); try go_wp2_with (first | (go_at_call 83; (with_reducible refine (spec_l01In.calls (rd l1 x5_1) 0 (l0_1.length : Int) true _ A10.out).mono ?_); rintro e w' ⟨rfl, ⟨nd, rfl⟩⟩; (try first | exact ⟨rfl, _, World.drewN_drewN _ _ _⟩ | exact ⟨rfl, _, Eq.trans (World.drewN_drewN _ _ _) (congrArg (World.drewN _) (Nat.add_assoc _ _ _))⟩))))
       go_roundg k1
       case measure => have := HK1.out; omega
       case rel => exact ⟨(wrap64 (x5_1 + 1)), (by first | rfl | (simp; done) | (simp [*]; done)), H', ⟨by have := HK1.out; omega⟩, ⟨ZK BK651⟩, ⟨ZB⟩⟩
      ·replace c11 := Bool.eq_false_iff.mpr c11
       subst c11
       have H1 : (some 2) = some r := by rw [if_neg (show ¬ (false = true) by decide)] at H; exact H
       clear H
       have H := H1
       clear H1
       obtain rfl := Option.some.inj H
       have p653 : 0 ≤ (x5_1 : Int) := of_decide_eq_true (by first | (with_reducible assumption) | assumption)
       have q653 : x5_1 < (l1.length : Int) := of_decide_eq_true (by first | (with_reducible assumption) | assumption)
       obtain ⟨ad653, e653, hx653_0⟩ := Kd.at_int HR1.out x5_1 p653 q653
       cases e653
       replace hx653_0 := (HB.out.cell (World.block_lt_of_cell? w _ hx653_0)).trans hx653_0
       replace p653 := eq_true p653
       replace q653 := eq_true q653
       obtain ⟨hcz13_0, hcz13_1, hcz13_2, hfz13_0, hfz13_1, hfz13_2⟩ := ZD3 BK651
       go_wp2_with (first | (go_at_call 83; (with_reducible refine (spec_l01In.calls (rd l1 x5_1) 0 (l0_1.length : Int) false _ A10.out).mono ?_); rintro e w' ⟨rfl, ⟨nd, rfl⟩⟩; (try first | exact ⟨rfl, _, World.drewN_drewN _ _ _⟩ | exact ⟨rfl, _, Eq.trans (World.drewN_drewN _ _ _) (congrArg (World.drewN _) (Nat.add_assoc _ _ _))⟩)))
       repeat (go_quiet (first | (go_at_call 83; (with_reducible refine (spec_l01In.calls (rd l1 x5_1) 0 (l0_1.length : Int) false _ A10.out).mono ?_); rintro e w' ⟨rfl, ⟨nd, rfl⟩⟩; (try first | exact ⟨rfl, _, World.drewN_drewN _ _ _⟩ | exact ⟨rfl, _, Eq.trans (World.drewN_drewN _ _ _) (congrArg (World.drewN _) (Nat.add_assoc _ _ _))⟩))); try go_wp2_with (first | (go_at_call 83; (with_reducible refine (spec_l01In.calls (rd l1 x5_1) 0 (l0_1.length : Int) false _ A10.out).mono ?_); rintro e w' ⟨rfl, ⟨nd, rfl⟩⟩; (try first | exact ⟨rfl, _, World.drewN_drewN _ _ _⟩ | exact ⟨rfl, _, Eq.trans (World.drewN_drewN _ _ _) (congrArg (World.drewN _) (Nat.add_assoc _ _ _))⟩))))
       go_ret
       exact ⟨by first | rfl | (simp [errW_none, errW_some] <;> rfl) | (simp [*, errW_none, errW_some] <;> rfl), ZB⟩
     ·rw [if_neg c9] at H
      exact absurd H (by simp)
    ·rw [if_neg c8] at H
     have c8b0 : decide (x5_1 < (l1.length : Int)) = false := decide_eq_false c8
     clear c8
     obtain rfl := Option.some.inj H
     go_wp2
     repeat (go_quiet (fail); try go_wp2)
     go_ret
     exact ⟨by first | rfl | (simp [errW_none, errW_some] <;> rfl) | (simp [*, errW_none, errW_some] <;> rfl), ZB⟩
 ·replace c4 := Bool.eq_false_iff.mpr c4
  subst c4
  have H1 : (some 1) = some r := by rw [if_neg (show ¬ (false = true) by decide)] at H; exact H
  clear H
  have H := H1
  clear H1
  obtain rfl := Option.some.inj H
  go_enter Try.func74, Try.ntmps74
  go_wp2_with (first | ((with_reducible refine gate_dst (N := 2) rfl ?_); refine box_event ?hg (N := 2) ?hd (cs := #[.int .i64 a0_0, .slice A0_1 l0_1.length c0_1, .slice A0_2 l0_2.length c0_2]) (t := 29) ?hr ?_; (case hd => rfl); (case hg => rfl); (case hr => first | (go_simp; done) | (go_simp; rfl)); intro gb651 hg w14 hbox hb; have n0_ := Aside0.mk (below_step ZB hb); have n1_ := Aside0.mk (hbox); have n2_ := Aside0.mk ((ZG hg : w.heap.size ≤ gb651)); have n3_ := Aside0.mk ((ZG hg : w.heap.size ≤ gb651)); clear HB; have HB := n0_; have BK651 := n1_; have GW651 := n2_; have GE651 := n3_; clear n0_ n1_ n2_ n3_; clear hb hbox hg; obtain ⟨hcz15_0, hcz15_1, hcz15_2, hfz15_0, hfz15_1, hfz15_2⟩ := ZD3 BK651) | (go_at_call 55; (with_reducible refine (spec_l03Is.calls k a0_0 _ _ l0_1 _ _ l0_2 false _ ?side1 ?side2 ?side3 ?side4 A3.out).mono ?_); (case side1 => exact ZC HR0_1); (case side2 => exact HC0_1.out); (case side3 => exact ZC HR0_2); (case side4 => exact HC0_2.out); rintro e w16 ⟨rfl, hb⟩; have n0_ := ZL BK651 hb; have n1_ := Aside0.mk (below_step ZB hb); clear BK651; clear HB; have BK651 := n0_; have HB := n1_; clear n0_ n1_; (try clear hb); (try clear hb2); (try clear hk); (try clear hi)))
  repeat (go_quiet (first | ((with_reducible refine gate_dst (N := 2) rfl ?_); refine box_event ?hg (N := 2) ?hd (cs := #[.int .i64 a0_0, .slice A0_1 l0_1.length c0_1, .slice A0_2 l0_2.length c0_2]) (t := 29) ?hr ?_; (case hd => rfl); (case hg => rfl); (case hr => first | (go_simp; done) | (go_simp; rfl)); intro gb651 hg w14 hbox hb; have n0_ := Aside0.mk (below_step ZB hb); have n1_ := Aside0.mk (hbox); have n2_ := Aside0.mk ((ZG hg : w.heap.size ≤ gb651)); have n3_ := Aside0.mk ((ZG hg : w.heap.size ≤ gb651)); clear HB; have HB := n0_; have BK651 := n1_; have GW651 := n2_; have GE651 := n3_; clear n0_ n1_ n2_ n3_; clear hb hbox hg; obtain ⟨hcz15_0, hcz15_1, hcz15_2, hfz15_0, hfz15_1, hfz15_2⟩ := ZD3 BK651) | (go_at_call 55; (with_reducible refine (spec_l03Is.calls k a0_0 _ _ l0_1 _ _ l0_2 false _ ?side1 ?side2 ?side3 ?side4 A3.out).mono ?_); (case side1 => exact ZC HR0_1); (case side2 => exact HC0_1.out); (case side3 => exact ZC HR0_2); (case side4 => exact HC0_2.out); rintro e w16 ⟨rfl, hb⟩; have n0_ := ZL BK651 hb; have n1_ := Aside0.mk (below_step ZB hb); clear BK651; clear HB; have BK651 := n0_; have HB := n1_; clear n0_ n1_; (try clear hb); (try clear hb2); (try clear hk); (try clear hi))); try go_wp2_with (first | ((with_reducible refine gate_dst (N := 2) rfl ?_); refine box_event ?hg (N := 2) ?hd (cs := #[.int .i64 a0_0, .slice A0_1 l0_1.length c0_1, .slice A0_2 l0_2.length c0_2]) (t := 29) ?hr ?_; (case hd => rfl); (case hg => rfl); (case hr => first | (go_simp; done) | (go_simp; rfl)); intro gb651 hg w14 hbox hb; have n0_ := Aside0.mk (below_step ZB hb); have n1_ := Aside0.mk (hbox); have n2_ := Aside0.mk ((ZG hg : w.heap.size ≤ gb651)); have n3_ := Aside0.mk ((ZG hg : w.heap.size ≤ gb651)); clear HB; have HB := n0_; have BK651 := n1_; have GW651 := n2_; have GE651 := n3_; clear n0_ n1_ n2_ n3_; clear hb hbox hg; obtain ⟨hcz15_0, hcz15_1, hcz15_2, hfz15_0, hfz15_1, hfz15_2⟩ := ZD3 BK651) | (go_at_call 55; (with_reducible refine (spec_l03Is.calls k a0_0 _ _ l0_1 _ _ l0_2 false _ ?side1 ?side2 ?side3 ?side4 A3.out).mono ?_); (case side1 => exact ZC HR0_1); (case side2 => exact HC0_1.out); (case side3 => exact ZC HR0_2); (case side4 => exact HC0_2.out); rintro e w16 ⟨rfl, hb⟩; have n0_ := ZL BK651 hb; have n1_ := Aside0.mk (below_step ZB hb); clear BK651; clear HB; have BK651 := n0_; have HB := n1_; clear n0_ n1_; (try clear hb); (try clear hb2); (try clear hk); (try clear hi))))
  go_ret
  exact ⟨by first | rfl | (simp [errW_none, errW_some] <;> rfl) | (simp [*, errW_none, errW_some] <;> rfl), ZB⟩

/-! ### spec_ConnectJacobi: function 32 -/
mutual
def spec_ConnectJacobi.j0 : Nat → Int → Int → Int → Bool → Int → List Int → List Int → Int → List Int → List Int → Option (List Int × Int)
 | 0, _, _, _, _, _, _, _, _, _, _ => none
 | k + 1, x2, x8, x9, x18, x656000, x656001, x656002, x657000, x657001, x657002 => if x18 = true then (some (([] : List Int), 1)) else (if x8 = 0 then (if x9 = 0 then (spec_ConnectJacobi.j1 k x2 (x656000 != x657000) x656000 x656001 x656002 x657000 x657001 x657002) else (spec_ConnectJacobi.j1 k x2 true x656000 x656001 x656002 x657000 x657001 x657002)) else (spec_ConnectJacobi.j1 k x2 true x656000 x656001 x656002 x657000 x657001 x657002))
def spec_ConnectJacobi.j1 : Nat → Int → Bool → Int → List Int → List Int → Int → List Int → List Int → Option (List Int × Int)
 | 0, _, _, _, _, _, _, _, _ => none
 | k + 1, x2, x25, x656000, x656001, x656002, x657000, x657001, x657002 => if x25 = true then (some (([] : List Int), 2)) else ((spec_l03Poly.f k x656000 x656001 x656002 x2).bind fun t665 => ((spec_l10Expand.f k x657000 x657001 x657002 t665).bind fun t668 => (some (t668, 0))))
end
def spec_ConnectJacobi.f (k : Nat) (a0_0 : Int) (l0_1 : List Int) (l0_2 : List Int) (a1_0 : Int) (l1_1 : List Int) (l1_2 : List Int) (a2 : Int) : Option (List Int × Int) := (spec_l10Code.f k a0_0 l0_1 l0_2 (([a2] : List Int))).bind fun t660 => ((spec_l10Code.f k a1_0 l1_1 l1_2 (([a2] : List Int))).bind fun t664 => (if t660 = 1 then (spec_ConnectJacobi.j0 k a2 t660 t664 true a0_0 l0_1 l0_2 a1_0 l1_1 l1_2) else (spec_ConnectJacobi.j0 k a2 t660 t664 (t664 == 1) a0_0 l0_1 l0_2 a1_0 l1_1 l1_2)))
theorem spec_ConnectJacobi.mono_l : ∀ k, (∀ y0 y1 y2 y3 y4 y5 y6 y7 y8 y9, LeO (spec_ConnectJacobi.j0 k y0 y1 y2 y3 y4 y5 y6 y7 y8 y9) (spec_ConnectJacobi.j0 (k + 1) y0 y1 y2 y3 y4 y5 y6 y7 y8 y9)) ∧ (∀ y0 y1 y2 y3 y4 y5 y6 y7, LeO (spec_ConnectJacobi.j1 k y0 y1 y2 y3 y4 y5 y6 y7) (spec_ConnectJacobi.j1 (k + 1) y0 y1 y2 y3 y4 y5 y6 y7))
 | 0 => ⟨fun _ _ _ _ _ _ _ _ _ _ r h => by simp [spec_ConnectJacobi.j0] at h, fun _ _ _ _ _ _ _ _ r h => by simp [spec_ConnectJacobi.j1] at h⟩
 | k + 1 => by
  obtain ⟨ih0, ih1⟩ := spec_ConnectJacobi.mono_l k
  refine ⟨?_, ?_⟩
  ·intro y0 y1 y2 y3 y4 y5 y6 y7 y8 y9
   unfold spec_ConnectJacobi.j0
   repeat' first
   | (with_reducible exact ih0 _ _ _ _ _ _ _ _ _ _)
   | (with_reducible exact ih1 _ _ _ _ _ _ _ _)
   | (with_reducible exact spec_l03Poly.mono _ _ _ _ _)
   | (with_reducible exact spec_l10Code.mono _ _ _ _ _)
   | (with_reducible exact spec_l10Expand.mono _ _ _ _ _)
   | (with_reducible exact LeO.refl _)
   | (with_reducible exact LeO.none _)
   | (with_reducible refine LeO.ite ?_ ?_)
   | (with_reducible refine LeO.bind ?_ (fun _ => ?_))
   | exact ih0 _ _ _ _ _ _ _ _ _ _
   | exact ih1 _ _ _ _ _ _ _ _
   | exact spec_l03Poly.mono _ _ _ _ _
   | exact spec_l10Code.mono _ _ _ _ _
   | exact spec_l10Expand.mono _ _ _ _ _
   | exact LeO.none _
   | refine LeO.ite ?_ ?_
   | refine LeO.bind ?_ (fun _ => ?_)
  ·intro y0 y1 y2 y3 y4 y5 y6 y7
   unfold spec_ConnectJacobi.j1
   repeat' first
   | (with_reducible exact ih0 _ _ _ _ _ _ _ _ _ _)
   | (with_reducible exact ih1 _ _ _ _ _ _ _ _)
   | (with_reducible exact spec_l03Poly.mono _ _ _ _ _)
   | (with_reducible exact spec_l10Code.mono _ _ _ _ _)
   | (with_reducible exact spec_l10Expand.mono _ _ _ _ _)
   | (with_reducible exact LeO.refl _)
   | (with_reducible exact LeO.none _)
   | (with_reducible refine LeO.ite ?_ ?_)
   | (with_reducible refine LeO.bind ?_ (fun _ => ?_))
   | exact ih0 _ _ _ _ _ _ _ _ _ _
   | exact ih1 _ _ _ _ _ _ _ _
   | exact spec_l03Poly.mono _ _ _ _ _
   | exact spec_l10Code.mono _ _ _ _ _
   | exact spec_l10Expand.mono _ _ _ _ _
   | exact LeO.none _
   | refine LeO.ite ?_ ?_
   | refine LeO.bind ?_ (fun _ => ?_)
theorem spec_ConnectJacobi.mono : ∀ a0 a1 a2 a3 a4 a5 a6 k, LeO (spec_ConnectJacobi.f k a0 a1 a2 a3 a4 a5 a6) (spec_ConnectJacobi.f (k + 1) a0 a1 a2 a3 a4 a5 a6) := by
 intro a0 a1 a2 a3 a4 a5 a6 k
 obtain ⟨ih0, ih1⟩ := spec_ConnectJacobi.mono_l k
 unfold spec_ConnectJacobi.f
 repeat' first
   | (with_reducible exact ih0 _ _ _ _ _ _ _ _ _ _)
   | (with_reducible exact ih1 _ _ _ _ _ _ _ _)
   | (with_reducible exact spec_l03Poly.mono _ _ _ _ _)
   | (with_reducible exact spec_l10Code.mono _ _ _ _ _)
   | (with_reducible exact spec_l10Expand.mono _ _ _ _ _)
   | (with_reducible exact LeO.refl _)
   | (with_reducible exact LeO.none _)
   | (with_reducible refine LeO.ite ?_ ?_)
   | (with_reducible refine LeO.bind ?_ (fun _ => ?_))
   | exact ih0 _ _ _ _ _ _ _ _ _ _
   | exact ih1 _ _ _ _ _ _ _ _
   | exact spec_l03Poly.mono _ _ _ _ _
   | exact spec_l10Code.mono _ _ _ _ _
   | exact spec_l10Expand.mono _ _ _ _ _
   | exact LeO.none _
   | refine LeO.ite ?_ ?_
   | refine LeO.bind ?_ (fun _ => ?_)
def spec_ConnectJacobi.T1 : Bool × List (List Nat × List Nat) := (true, [([], []), ([], []), ([1], [1]), ([0, 2], [0, 2]), ([], []), ([], []), ([5], [5]), ([4, 6, 3], [4, 6]), ([3, 7, 0, 1, 2, 3], [3]), ([7, 8, 0, 1, 2, 3, 4, 5, 6, 7, 8], [7])])
def spec_ConnectJacobi.B1 : List Nat := [0, 0, 2, 7, 0, 0, 32, 127, 255, 511]
theorem spec_ConnectJacobi.tab1 : rtab .any (opsOf Try.f32 1) = spec_ConnectJacobi.T1 := by kernel_rfl
theorem spec_ConnectJacobi.bits1 : waitsOk spec_ConnectJacobi.T1.2 spec_ConnectJacobi.B1 = true := by kernel_rfl
set_option maxHeartbeats 8000000 in
set_option maxRecDepth 100000 in
theorem spec_ConnectJacobi.calls (k : Nat) (a0_0 : Int) (A0_1 : Option Addr) (c0_1 : Nat) (l0_1 : List Int) (A0_2 : Option Addr) (c0_2 : Nat) (l0_2 : List Int) (a1_0 : Int) (A1_1 : Option Addr) (c1_1 : Nat) (l1_1 : List Int) (A1_2 : Option Addr) (c1_2 : Nat) (l1_2 : List Int) (a2 : Int) (r1 : List Int) (r2 : Int) (w : World) (hr0_1 : Kd.C (Kd.int .i64) w A0_1 l0_1.length l0_1) (hc0_1 : l0_1.length ≤ c0_1) (hr0_2 : Kd.C (Kd.int .i64) w A0_2 l0_2.length l0_2) (hc0_2 : l0_2.length ≤ c0_2) (hr1_1 : Kd.C (Kd.int .i64) w A1_1 l1_1.length l1_1) (hc1_1 : l1_1.length ≤ c1_1) (hr1_2 : Kd.C (Kd.int .i64) w A1_2 l1_2.length l1_2) (hc1_2 : l1_2.length ≤ c1_2) (h : spec_ConnectJacobi.f k a0_0 l0_1 l0_2 a1_0 l1_1 l1_2 a2 = some (r1, r2)) :
  Calls Try.prog 32 #[.agg #[.int .i64 a0_0, .slice A0_1 l0_1.length c0_1, .slice A0_2 l0_2.length c0_2], .agg #[.int .i64 a1_0, .slice A1_1 l1_1.length c1_1, .slice A1_2 l1_2.length c1_2], .int .i64 a2] w fun e w' => ∃ v0_ : Value, e = .returned (.tuple #[v0_, .int .i64 r2]) ∧ Kd.R (Kd.int .i64) 2 w' w.heap.size (fun _ => True) v0_ r1 ∧ Below w.heap.size w w' := by
 have hu29 := Try.underlying29
 have HR0_1 := Aside0.mk hr0_1
 have HC0_1 := Aside0.mk hc0_1
 clear hr0_1 hc0_1
 have HR0_2 := Aside0.mk hr0_2
 have HC0_2 := Aside0.mk hc0_2
 clear hr0_2 hc0_2
 have HR1_1 := Aside0.mk hr1_1
 have HC1_1 := Aside0.mk hc1_1
 clear hr1_1 hc1_1
 have HR1_2 := Aside0.mk hr1_2
 have HC1_2 := Aside0.mk hc1_2
 clear hr1_2 hc1_2
 have HB := Aside0.mk (Below.refl w.heap.size w)
 have H : ((spec_l10Code.f k a0_0 l0_1 l0_2 (([a2] : List Int))).bind fun t660 => ((spec_l10Code.f k a1_0 l1_1 l1_2 (([a2] : List Int))).bind fun t664 => (if t660 = 1 then (spec_ConnectJacobi.j0 k a2 t660 t664 true a0_0 l0_1 l0_2 a1_0 l1_1 l1_2) else (spec_ConnectJacobi.j0 k a2 t660 t664 (t664 == 1) a0_0 l0_1 l0_2 a1_0 l1_1 l1_2)))) = some (r1, r2) := h
 clear h
 obtain ⟨y657, hy657⟩ : ∃ y_ : List Int, y_ = (([a2] : List Int)) := ⟨_, rfl⟩
 replace H : ((spec_l10Code.f k a0_0 l0_1 l0_2 y657).bind fun t660 => ((spec_l10Code.f k a1_0 l1_1 l1_2 (([a2] : List Int))).bind fun t664 => (if t660 = 1 then (spec_ConnectJacobi.j0 k a2 t660 t664 true a0_0 l0_1 l0_2 a1_0 l1_1 l1_2) else (spec_ConnectJacobi.j0 k a2 t660 t664 (t664 == 1) a0_0 l0_1 l0_2 a1_0 l1_1 l1_2)))) = some (r1, r2) := by first | (rw [hy657]; with_reducible exact H) | (have H2_ := (Option.bind_some _ _).symm.trans H; rw [hy657]; with_reducible exact H2_) | (have H2_ := (Option.bind_some _ _).symm.trans H; with_reducible exact H2_) | with_reducible exact H | (rw [hy657]; exact H) | exact H
 have Ny657 := Aside0.mk hy657
 clear hy657
 replace H := Option.bind_eq_some_iff.mp H
 obtain ⟨t660, A40, H⟩ := H
 replace H : ((spec_l10Code.f k a1_0 l1_1 l1_2 (([a2] : List Int))).bind fun t664 => (if t660 = 1 then (spec_ConnectJacobi.j0 k a2 t660 t664 true a0_0 l0_1 l0_2 a1_0 l1_1 l1_2) else (spec_ConnectJacobi.j0 k a2 t660 t664 (t664 == 1) a0_0 l0_1 l0_2 a1_0 l1_1 l1_2))) = some (r1, r2) := H
 have A4 := Aside0.mk A40
 clear A40
 obtain ⟨y661, hy661⟩ : ∃ y_ : List Int, y_ = (([a2] : List Int)) := ⟨_, rfl⟩
 replace H : ((spec_l10Code.f k a1_0 l1_1 l1_2 y661).bind fun t664 => (if t660 = 1 then (spec_ConnectJacobi.j0 k a2 t660 t664 true a0_0 l0_1 l0_2 a1_0 l1_1 l1_2) else (spec_ConnectJacobi.j0 k a2 t660 t664 (t664 == 1) a0_0 l0_1 l0_2 a1_0 l1_1 l1_2))) = some (r1, r2) := by first | (rw [hy661]; with_reducible exact H) | (have H2_ := (Option.bind_some _ _).symm.trans H; rw [hy661]; with_reducible exact H2_) | (have H2_ := (Option.bind_some _ _).symm.trans H; with_reducible exact H2_) | with_reducible exact H | (rw [hy661]; exact H) | exact H
 have Ny661 := Aside0.mk hy661
 clear hy661
 replace H := Option.bind_eq_some_iff.mp H
 obtain ⟨t664, A50, H⟩ := H
 replace H : (if t660 = 1 then (spec_ConnectJacobi.j0 k a2 t660 t664 true a0_0 l0_1 l0_2 a1_0 l1_1 l1_2) else (spec_ConnectJacobi.j0 k a2 t660 t664 (t664 == 1) a0_0 l0_1 l0_2 a1_0 l1_1 l1_2)) = some (r1, r2) := H
 have A5 := Aside0.mk A50
 clear A50
 have HC6 := Aside0.mk H
 clear H
 go_enter Try.func32, Try.ntmps32
 try go_wp2_with (first | ((with_reducible refine gate_dst (N := 3) rfl ?_); refine box_event ?hg (N := 3) ?hd (cs := #[.int .i64 a0_0, .slice A0_1 l0_1.length c0_1, .slice A0_2 l0_2.length c0_2]) (t := 29) ?hr ?_; (case hd => rfl); (case hg => rfl); (case hr => first | (go_simp; done) | (go_simp; rfl)); intro gb655 hg w7 hbox hb; have n0_ := Aside0.mk (below_step ZB hb); have n1_ := Aside0.mk (hbox); have n2_ := Aside0.mk ((ZG hg : w.heap.size ≤ gb655)); have n3_ := Aside0.mk ((ZG hg : w.heap.size ≤ gb655)); clear HB; have HB := n0_; have BK655 := n1_; have GW655 := n2_; have GE655 := n3_; clear n0_ n1_ n2_ n3_; clear hb hbox hg) | ((with_reducible refine gate_dst (N := 4) rfl ?_); refine box_event ?hg (N := 4) ?hd (cs := #[.int .i64 a1_0, .slice A1_1 l1_1.length c1_1, .slice A1_2 l1_2.length c1_2]) (t := 29) ?hr ?_; (case hd => rfl); (case hg => rfl); (case hr => first | (go_simp; done) | (go_simp; rfl)); intro gb656 hg w8 hbox hb; have n0_ := ZL BK655 hb; have n1_ := Aside0.mk (below_step ZB hb); have n2_ := Aside0.mk (hbox); have n3_ := Aside0.mk ((ZG hg : w.heap.size ≤ gb656)); have n4_ := Aside0.mk ((ZG hg : w.heap.size ≤ gb656)); have n5_ := Aside0.mk ((ZN hg BK655 : gb655 ≠ gb656)); have n6_ := Aside0.mk ((ZM hg BK655 : gb656 ≠ gb655)); clear BK655; clear HB; have BK655 := n0_; have HB := n1_; have BK656 := n2_; have GW656 := n3_; have GE656 := n4_; have NB655_656 := n5_; have NB656_655 := n6_; clear n0_ n1_ n2_ n3_ n4_ n5_ n6_; clear hb hbox hg))
 have n0_ := Aside0.mk (blk_drew BK655.out)
 have n1_ := Aside0.mk (blk_drew BK656.out)
 have n2_ := Aside0.mk (below_drew1 HB.out)
 clear BK655
 clear BK656
 clear HB
 have BK655 := n0_
 have BK656 := n1_
 have HB := n2_
 clear n0_ n1_ n2_
 refine start_ (n := 10) (S := fun w' => True) (ds := []) #[false, false, false, false, false, false, false, false, false, false] (by kernel_rfl) rfl rfl trivial (fun hHeld => ?_); refine with_tabW spec_ConnectJacobi.tab1 spec_ConnectJacobi.bits1 (fun HT_ HW_ => ?_)
 generalize w8.drew = w9 at BK655 BK656 HB hHeld ⊢
 refine Zpt 1 (some 11) (h := ?_)
 refine Zpt 5 (some 15) (h := ?_)
 refine inv_at [0, 2, 3, 4, 6, 7, 8, 9] (fun a0_ b a w' => ∃ (v658 : Value) (v662 : Value), a = putSel a0_ b [(0, 10, .agg #[.int .i64 a0_0, .slice A0_1 l0_1.length c0_1, .slice A0_2 l0_2.length c0_2]), (2, 12, v658), (3, 13, .int .i64 t660), (4, 14, .agg #[.int .i64 a1_0, .slice A1_1 l1_1.length c1_1, .slice A1_2 l1_2.length c1_2]), (6, 16, v662), (7, 17, .int .i64 t664), (8, 8, .int .i64 t660), (9, 9, .int .i64 t664)] ∧ (w'.heap[gb655]? = some (.cells #[.int .i64 a0_0, .slice A0_1 l0_1.length c0_1, .slice A0_2 l0_2.length c0_2] 29 (0, 0))) ∧ (w'.heap[gb656]? = some (.cells #[.int .i64 a1_0, .slice A1_1 l1_1.length c1_1, .slice A1_2 l1_2.length c1_2] 29 (0, 0))) ∧ (Below w.heap.size w w') ∧ (b 2 = true → Kd.R (Kd.int .i64) 2 w' w.heap.size (fun _ => True) v658 y657) ∧ (b 6 = true → Kd.R (Kd.int .i64) 2 w' w.heap.size (fun _ => True) v662 y661)) HT_.out HW_.out (by kernel_rfl) (by kernel_rfl) ?_ ?_ ?_
 ·exact ⟨.bool false, .bool false, by simp only [putSel, Bool.false_eq_true, if_false], BK655.out, BK656.out, HB.out, fun h_ => absurd h_ (by decide), fun h_ => absurd h_ (by decide)⟩
 ·skip
  clear BK655 BK656 HB
  refine steps_cons ?_ ?_
  ·rintro b a w' ⟨v658, v662, ha, Q_BK655, Q_BK656, Q_HB, Q_HO659, Q_HO663⟩ hb_ hon hoff
   refine ⟨_, rfl, fun K hK => ?_⟩
   have e3 : a.tmps[3]? = some (.pointer (some ⟨gb655, 0, none⟩)) := by rw [ha]; exact (putSel_off rfl).trans rfl
   replace ha := Aside0.mk ha
   have BK655 := Aside0.mk Q_BK655
   have BK656 := Aside0.mk Q_BK656
   have HB := Aside0.mk Q_HB
   have hc0_ : w'.cell? ⟨gb655, 0, none⟩ = some (.int .i64 a0_0) := (blk_cell BK655.out 0).trans rfl
   have hc1_ : w'.cell? ⟨gb655, 1, none⟩ = some (.slice A0_1 l0_1.length c0_1) := (blk_cell BK655.out 1).trans rfl
   have hc2_ : w'.cell? ⟨gb655, 2, none⟩ = some (.slice A0_2 l0_2.length c0_2) := (blk_cell BK655.out 2).trans rfl
   refine value_ (w1 := w') (v := .agg #[.int .i64 a0_0, .slice A0_1 l0_1.length c0_1, .slice A0_2 l0_2.length c0_2]) (by rfl) rfl ?_ ?_
   ·go_simp
    (try simp only [i64_w])
    try rfl
   refine hK.out _ _ ⟨v658, v662, (by rw [ha.out]; exact putSel_upk 0 hb_ rfl rfl rfl), Q_BK655, Q_BK656, Q_HB, Q_HO659, Q_HO663⟩
  refine steps_cons ?_ ?_
  ·rintro b a w' ⟨v658, v662, ha, Q_BK655, Q_BK656, Q_HB, Q_HO659, Q_HO663⟩ hb_ hon hoff
   refine ⟨_, rfl, fun K hK => ?_⟩
   have e11 : a.tmps[11]? = some (.int .i64 a2) := by rw [ha]; exact (putSel_off rfl).trans rfl
   replace ha := Aside0.mk ha
   have BK655 := Aside0.mk Q_BK655
   have BK656 := Aside0.mk Q_BK656
   have HB := Aside0.mk Q_HB
   refine Kd.R_lit_step (Kd.int .i64) _ 2 ?hg (N := 12) ?hd (xs := ([a2] : List Int)) (inner := [.int .i64 a2]) (ok := fun _ => True) (okp := fun _ => True) ?hr ?hp (fun _ hk => hk) trivial (Below.refl _ _) (Nat.le_refl _) (by simp) ?_; (case hd => rfl); (case hg => rfl); (case hr => first | (go_simp; done) | (go_simp; rfl)); (case hp => exact (Reps.one (show Kd.M (Kd.int .i64) _ _ _ a2 [.int .i64 a2] from rfl) (Reps.none _ _)))
   intro v658 w10 ho11 hb hg_ hnew_
   clear hg_ hnew_
   (first | rw [← Ny657.out] at ho11 | (simp only [Int.reduceToNat] at ho11; rw [← Ny657.out] at ho11))
   have n0_ := Aside0.mk (Kd.R_lower ho11 (below_size ZB))
   have n1_ := ZL BK655 hb
   have n2_ := ZL BK656 hb
   have n3_ := Aside0.mk (below_step ZB hb)
   have z_HO663 := fun (h0_ : b 6 = true) => (show Kd.R (Kd.int .i64) 2 w10 w.heap.size (fun _ => True) v662 y661 from by first | exact (Kd.R_elder' (by refine ZQ ?_; exact (Q_HO663 h0_)) (Kd.R_base ho11) hb) | exact Kd.R_mono (Kd.R_elder' (by refine ZQ ?_; exact (Q_HO663 h0_)) (Kd.R_base ho11) hb) (fun _ h_ => by first | trivial | exact h_ | exact h_.1))
   clear BK655
   clear BK656
   clear HB
   have HO659 := n0_
   have BK655 := n1_
   have BK656 := n2_
   have HB := n3_
   clear n0_ n1_ n2_ n3_
   clear hb ho11
   refine hK.out _ _ ⟨v658, v662, (by rw [ha.out]; exact putSel_upk 1 hb_ rfl rfl rfl), (ZK BK655), (ZK BK656), ZB, fun _ => (ZR HO659), z_HO663⟩
  refine steps_cons ?_ ?_
  ·rintro b a w' ⟨v658, v662, ha, Q_BK655, Q_BK656, Q_HB, Q_HO659, Q_HO663⟩ hb_ hon hoff
   refine ⟨_, rfl, fun K hK => ?_⟩
   have e10 : a.tmps[10]? = some (.agg #[.int .i64 a0_0, .slice A0_1 l0_1.length c0_1, .slice A0_2 l0_2.length c0_2]) := by rw [ha]; exact putSel_on (e := (0, 10, .agg #[.int .i64 a0_0, .slice A0_1 l0_1.length c0_1, .slice A0_2 l0_2.length c0_2])) 0 rfl rfl (hon 0 (by kernel_rfl)) rfl
   have e12 : a.tmps[12]? = some (v658) := by rw [ha]; exact putSel_on (e := (2, 12, v658)) 1 rfl rfl (hon 2 (by kernel_rfl)) rfl
   replace ha := Aside0.mk ha
   have BK655 := Aside0.mk Q_BK655
   have BK656 := Aside0.mk Q_BK656
   have HB := Aside0.mk Q_HB
   have HO659 := Aside0.mk (Q_HO659 (hon 2 (by kernel_rfl)))
   obtain ⟨Ao13, co13, eo13⟩ := Kd.R_slice HO659.out
   (first | subst eo13 | (injection eo13 with f1_ f2_ f3_; have f4_ := f1_.symm; have f5_ := f3_.symm; clear f1_ f2_ f3_; subst f4_; subst f5_))
   refine goes_ Try.func74 (by kernel_rfl) rfl #[.agg #[.int .i64 a0_0, .slice A0_1 l0_1.length c0_1, .slice A0_2 l0_2.length c0_2], .slice Ao13 y657.length co13] (by rfl) rfl rfl (by first | (simp only [List.map_toArray, List.map_cons, List.map_nil, Act.eval, Array.getD_eq_getD_getElem?, Option.getD_some, e10, e12]; done) | (simp only [List.map_toArray, List.map_cons, List.map_nil, Act.eval, Array.getD_eq_getD_getElem?, Option.getD_some, e10, e12]; rfl)) ?_
   with_reducible refine (spec_l10Code.calls k a0_0 _ _ l0_1 _ _ l0_2 _ _ y657 t660 _ ?side1 ?side2 ?side3 ?side4 ?side5 ?side6 A4.out).mono ?_
   (case side1 => exact ZC HR0_1)
   (case side2 => exact HC0_1.out)
   (case side3 => exact ZC HR0_2)
   (case side4 => exact HC0_2.out)
   (case side5 => repeat (first | exact (Kd.R_reads' HO659.out).2.2 | (with_reducible refine Kd.C_alloc ?_ _) | (with_reducible refine Kd.C_drewN ?_ _) | (with_reducible refine Kd.C_drew ?_)))
   (case side6 => exact (Kd.R_reads' HO659.out).2.1)
   rintro e w14 ⟨rfl, hb⟩
   refine ⟨_, rfl, ?_⟩
   have n0_ := Aside0.mk (Kd.R_below (ZR HO659) hb)
   have n1_ := ZL BK655 hb
   have n2_ := ZL BK656 hb
   have n3_ := Aside0.mk (below_step ZB hb)
   have z_HO663 := fun (h0_ : b 6 = true) => (show Kd.R (Kd.int .i64) 2 w14 w.heap.size (fun _ => True) v662 y661 from by first | exact (Kd.R_below (by refine ZQ ?_; exact (Q_HO663 h0_)) hb) | exact Kd.R_mono (Kd.R_below (by refine ZQ ?_; exact (Q_HO663 h0_)) hb) (fun _ h_ => by first | trivial | exact h_ | exact h_.1))
   clear HO659
   clear BK655
   clear BK656
   clear HB
   have HO659 := n0_
   have BK655 := n1_
   have BK656 := n2_
   have HB := n3_
   clear n0_ n1_ n2_ n3_
   (try clear hb)
   (try clear hb2)
   (try clear hk)
   (try clear hi)
   refine hK.out _ _ ⟨.slice Ao13 y657.length co13, v662, (by rw [ha.out]; exact putSel_upk 2 hb_ rfl rfl rfl), (ZK BK655), (ZK BK656), ZB, fun _ => (ZR HO659), z_HO663⟩
  refine steps_cons ?_ ?_
  ·rintro b a w' ⟨v658, v662, ha, Q_BK655, Q_BK656, Q_HB, Q_HO659, Q_HO663⟩ hb_ hon hoff
   refine ⟨_, rfl, fun K hK => ?_⟩
   have e4 : a.tmps[4]? = some (.pointer (some ⟨gb656, 0, none⟩)) := by rw [ha]; exact (putSel_off rfl).trans rfl
   replace ha := Aside0.mk ha
   have BK655 := Aside0.mk Q_BK655
   have BK656 := Aside0.mk Q_BK656
   have HB := Aside0.mk Q_HB
   have hc0_ : w'.cell? ⟨gb656, 0, none⟩ = some (.int .i64 a1_0) := (blk_cell BK656.out 0).trans rfl
   have hc1_ : w'.cell? ⟨gb656, 1, none⟩ = some (.slice A1_1 l1_1.length c1_1) := (blk_cell BK656.out 1).trans rfl
   have hc2_ : w'.cell? ⟨gb656, 2, none⟩ = some (.slice A1_2 l1_2.length c1_2) := (blk_cell BK656.out 2).trans rfl
   refine value_ (w1 := w') (v := .agg #[.int .i64 a1_0, .slice A1_1 l1_1.length c1_1, .slice A1_2 l1_2.length c1_2]) (by rfl) rfl ?_ ?_
   ·go_simp
    (try simp only [i64_w])
    try rfl
   refine hK.out _ _ ⟨v658, v662, (by rw [ha.out]; exact putSel_upk 3 hb_ rfl rfl rfl), Q_BK655, Q_BK656, Q_HB, Q_HO659, Q_HO663⟩
  refine steps_cons ?_ ?_
  ·rintro b a w' ⟨v658, v662, ha, Q_BK655, Q_BK656, Q_HB, Q_HO659, Q_HO663⟩ hb_ hon hoff
   refine ⟨_, rfl, fun K hK => ?_⟩
   have e15 : a.tmps[15]? = some (.int .i64 a2) := by rw [ha]; exact (putSel_off rfl).trans rfl
   replace ha := Aside0.mk ha
   have BK655 := Aside0.mk Q_BK655
   have BK656 := Aside0.mk Q_BK656
   have HB := Aside0.mk Q_HB
   refine Kd.R_lit_step (Kd.int .i64) _ 2 ?hg (N := 16) ?hd (xs := ([a2] : List Int)) (inner := [.int .i64 a2]) (ok := fun _ => True) (okp := fun _ => True) ?hr ?hp (fun _ hk => hk) trivial (Below.refl _ _) (Nat.le_refl _) (by simp) ?_; (case hd => rfl); (case hg => rfl); (case hr => first | (go_simp; done) | (go_simp; rfl)); (case hp => exact (Reps.one (show Kd.M (Kd.int .i64) _ _ _ a2 [.int .i64 a2] from rfl) (Reps.none _ _)))
   intro v662 w10 ho11 hb hg_ hnew_
   clear hg_ hnew_
   (first | rw [← Ny661.out] at ho11 | (simp only [Int.reduceToNat] at ho11; rw [← Ny661.out] at ho11))
   have n0_ := Aside0.mk (Kd.R_lower ho11 (below_size ZB))
   have n1_ := ZL BK655 hb
   have n2_ := ZL BK656 hb
   have n3_ := Aside0.mk (below_step ZB hb)
   have z_HO659 := fun (h0_ : b 2 = true) => (show Kd.R (Kd.int .i64) 2 w10 w.heap.size (fun _ => True) v658 y657 from by first | exact (Kd.R_elder' (by refine ZQ ?_; exact (Q_HO659 h0_)) (Kd.R_base ho11) hb) | exact Kd.R_mono (Kd.R_elder' (by refine ZQ ?_; exact (Q_HO659 h0_)) (Kd.R_base ho11) hb) (fun _ h_ => by first | trivial | exact h_ | exact h_.1))
   clear BK655
   clear BK656
   clear HB
   have HO663 := n0_
   have BK655 := n1_
   have BK656 := n2_
   have HB := n3_
   clear n0_ n1_ n2_ n3_
   clear hb ho11
   refine hK.out _ _ ⟨v658, v662, (by rw [ha.out]; exact putSel_upk 4 hb_ rfl rfl rfl), (ZK BK655), (ZK BK656), ZB, z_HO659, fun _ => (ZR HO663)⟩
  refine steps_cons ?_ ?_
  ·rintro b a w' ⟨v658, v662, ha, Q_BK655, Q_BK656, Q_HB, Q_HO659, Q_HO663⟩ hb_ hon hoff
   refine ⟨_, rfl, fun K hK => ?_⟩
   have e14 : a.tmps[14]? = some (.agg #[.int .i64 a1_0, .slice A1_1 l1_1.length c1_1, .slice A1_2 l1_2.length c1_2]) := by rw [ha]; exact putSel_on (e := (4, 14, .agg #[.int .i64 a1_0, .slice A1_1 l1_1.length c1_1, .slice A1_2 l1_2.length c1_2])) 3 rfl rfl (hon 4 (by kernel_rfl)) rfl
   have e16 : a.tmps[16]? = some (v662) := by rw [ha]; exact putSel_on (e := (6, 16, v662)) 4 rfl rfl (hon 6 (by kernel_rfl)) rfl
   replace ha := Aside0.mk ha
   have BK655 := Aside0.mk Q_BK655
   have BK656 := Aside0.mk Q_BK656
   have HB := Aside0.mk Q_HB
   have HO659 := Aside0.mk (Q_HO659 (hon 2 (by kernel_rfl)))
   have HO663 := Aside0.mk (Q_HO663 (hon 6 (by kernel_rfl)))
   obtain ⟨Ao17, co17, eo17⟩ := Kd.R_slice HO663.out
   (first | subst eo17 | (injection eo17 with f1_ f2_ f3_; have f4_ := f1_.symm; have f5_ := f3_.symm; clear f1_ f2_ f3_; subst f4_; subst f5_))
   refine goes_ Try.func74 (by kernel_rfl) rfl #[.agg #[.int .i64 a1_0, .slice A1_1 l1_1.length c1_1, .slice A1_2 l1_2.length c1_2], .slice Ao17 y661.length co17] (by rfl) rfl rfl (by first | (simp only [List.map_toArray, List.map_cons, List.map_nil, Act.eval, Array.getD_eq_getD_getElem?, Option.getD_some, e14, e16]; done) | (simp only [List.map_toArray, List.map_cons, List.map_nil, Act.eval, Array.getD_eq_getD_getElem?, Option.getD_some, e14, e16]; rfl)) ?_
   with_reducible refine (spec_l10Code.calls k a1_0 _ _ l1_1 _ _ l1_2 _ _ y661 t664 _ ?side1 ?side2 ?side3 ?side4 ?side5 ?side6 A5.out).mono ?_
   (case side1 => exact ZC HR1_1)
   (case side2 => exact HC1_1.out)
   (case side3 => exact ZC HR1_2)
   (case side4 => exact HC1_2.out)
   (case side5 => repeat (first | exact (Kd.R_reads' HO663.out).2.2 | (with_reducible refine Kd.C_alloc ?_ _) | (with_reducible refine Kd.C_drewN ?_ _) | (with_reducible refine Kd.C_drew ?_)))
   (case side6 => exact (Kd.R_reads' HO663.out).2.1)
   rintro e w18 ⟨rfl, hb⟩
   refine ⟨_, rfl, ?_⟩
   have n0_ := Aside0.mk (Kd.R_below (ZR HO659) hb)
   have n1_ := Aside0.mk (Kd.R_below (ZR HO663) hb)
   have n2_ := ZL BK655 hb
   have n3_ := ZL BK656 hb
   have n4_ := Aside0.mk (below_step ZB hb)
   clear HO659
   clear HO663
   clear BK655
   clear BK656
   clear HB
   have HO659 := n0_
   have HO663 := n1_
   have BK655 := n2_
   have BK656 := n3_
   have HB := n4_
   clear n0_ n1_ n2_ n3_ n4_
   (try clear hb)
   (try clear hb2)
   (try clear hk)
   (try clear hi)
   refine hK.out _ _ ⟨v658, .slice Ao17 y661.length co17, (by rw [ha.out]; exact putSel_upk 5 hb_ rfl rfl rfl), (ZK BK655), (ZK BK656), ZB, fun _ => (ZR HO659), fun _ => (ZR HO663)⟩
  refine steps_cons ?_ ?_
  ·rintro b a w' ⟨v658, v662, ha, Q_BK655, Q_BK656, Q_HB, Q_HO659, Q_HO663⟩ hb_ hon hoff
   refine ⟨_, rfl, fun K hK => ?_⟩
   have e13 : a.tmps[13]? = some (.int .i64 t660) := by rw [ha]; exact putSel_on (e := (3, 13, .int .i64 t660)) 2 rfl rfl (hon 3 (by kernel_rfl)) rfl
   replace ha := Aside0.mk ha
   have BK655 := Aside0.mk Q_BK655
   have BK656 := Aside0.mk Q_BK656
   have HB := Aside0.mk Q_HB
   have HO659 := Aside0.mk (Q_HO659 (hon 2 (by kernel_rfl)))
   have HO663 := Aside0.mk (Q_HO663 (hon 6 (by kernel_rfl)))
   refine value_ (w1 := w') (v := .int .i64 t660) (by rfl) rfl ?_ ?_
   ·go_simp
    (try simp only [i64_w])
    try rfl
   refine hK.out _ _ ⟨v658, v662, (by rw [ha.out]; exact putSel_upk 6 hb_ rfl rfl rfl), Q_BK655, Q_BK656, Q_HB, Q_HO659, Q_HO663⟩
  refine steps_cons ?_ ?_
  ·rintro b a w' ⟨v658, v662, ha, Q_BK655, Q_BK656, Q_HB, Q_HO659, Q_HO663⟩ hb_ hon hoff
   refine ⟨_, rfl, fun K hK => ?_⟩
   have e17 : a.tmps[17]? = some (.int .i64 t664) := by rw [ha]; exact putSel_on (e := (7, 17, .int .i64 t664)) 5 rfl rfl (hon 7 (by kernel_rfl)) rfl
   replace ha := Aside0.mk ha
   have BK655 := Aside0.mk Q_BK655
   have BK656 := Aside0.mk Q_BK656
   have HB := Aside0.mk Q_HB
   have HO659 := Aside0.mk (Q_HO659 (hon 2 (by kernel_rfl)))
   have HO663 := Aside0.mk (Q_HO663 (hon 6 (by kernel_rfl)))
   refine value_ (w1 := w') (v := .int .i64 t664) (by rfl) rfl ?_ ?_
   ·go_simp
    (try simp only [i64_w])
    try rfl
   refine hK.out _ _ ⟨v658, v662, (by rw [ha.out]; exact putSel_upk 7 hb_ rfl rfl rfl), Q_BK655, Q_BK656, Q_HB, Q_HO659, Q_HO663⟩
  exact steps_nil
 rintro b a w18 hall ⟨v658, v662, ha, Q_BK655, Q_BK656, Q_HB, Q_HO659, Q_HO663⟩
 clear BK655 BK656 HB
 have hb0_ := hall 0 (by kernel_rfl)
 have hb2_ := hall 2 (by kernel_rfl)
 have hb3_ := hall 3 (by kernel_rfl)
 have hb4_ := hall 4 (by kernel_rfl)
 have hb6_ := hall 6 (by kernel_rfl)
 have hb7_ := hall 7 (by kernel_rfl)
 have hb8_ := hall 8 (by kernel_rfl)
 have hb9_ := hall 9 (by kernel_rfl)
 subst ha
 simp only [putSel, hb0_, hb2_, hb3_, hb4_, hb6_, hb7_, hb8_, hb9_, if_true, Act.put, List.setIfInBounds_toArray, List.set_cons_zero, List.set_cons_succ]
 have BK655 := Aside0.mk Q_BK655
 clear Q_BK655
 have BK656 := Aside0.mk Q_BK656
 clear Q_BK656
 have HB := Aside0.mk Q_HB
 clear Q_HB
 have HO659 := Aside0.mk (Q_HO659 hb2_)
 clear Q_HO659
 have HO663 := Aside0.mk (Q_HO663 hb6_)
 clear Q_HO663
 clear hall hb0_ hb2_ hb3_ hb4_ hb6_ hb7_ hb8_ hb9_
 go_upto_region 2 with (fail)
 go_cut [18] (fun v18 wc => ∃ (kq : Nat) (x18_5 : Bool), v18 = .bool x18_5 ∧ Aside0 (spec_ConnectJacobi.j0 kq a2 t660 t664 x18_5 a0_0 l0_1 l0_2 a1_0 l1_1 l1_2 = some (r1, r2)) ∧ Aside0 (kq ≤ k) ∧ Aside0 (wc.heap[gb655]? = some (.cells #[.int .i64 a0_0, (.slice A0_1 l0_1.length c0_1), (.slice A0_2 l0_2.length c0_2)] 29 (0, 0))) ∧ Aside0 (wc.heap[gb656]? = some (.cells #[.int .i64 a1_0, (.slice A1_1 l1_1.length c1_1), (.slice A1_2 l1_2.length c1_2)] 29 (0, 0))) ∧ Aside0 (Below w.heap.size w wc))
 case first =>
  have H := HC6.out
  clear HC6
  by_cases c19 : t660 = 1
  ·rw [if_pos c19] at H
   have c19b0 : (t660 == 1) = true := beq_iff_eq.mpr c19
   have c19b1 : (t660 != 1) = false := bne_eq_false_iff_eq.mpr c19
   clear c19
   (first | rw [c19b0] | (simp only [i64_w, i32_w]; rw [c19b0]) | skip)
   have H' := Aside0.mk H
   clear H
   go_wp2
   go_meet
   case rel => exact ⟨_, (true), (by first | rfl | (simp; done) | (simp [*]; done)), H', ⟨by first | omega | exact Nat.le_refl _⟩, ⟨ZK BK655⟩, ⟨ZK BK656⟩, ⟨ZB⟩⟩
  ·rw [if_neg c19] at H
   have c19b0 : (t660 == 1) = false := beq_eq_false_iff_ne.mpr c19
   have c19b1 : (t660 != 1) = true := bne_iff_ne.mpr c19
   (first | rw [c19b0] | (simp only [i64_w, i32_w]; rw [c19b0]) | skip)
   have H' := Aside0.mk H
   clear H
   go_wp2
   go_meet
   case rel => exact ⟨_, ((t664 == 1)), (by first | rfl | (simp; done) | (simp [*]; done)), H', ⟨by first | omega | exact Nat.le_refl _⟩, ⟨ZK BK655⟩, ⟨ZK BK656⟩, ⟨ZB⟩⟩
 case rest =>
  clear HC6
  try clear c1
  try clear c2
  try clear p2
  try clear c3
  try clear c7
  try clear c19
  try clear c19b0
  try clear c19b1
  obtain ⟨kq, x18_5, rfl, HA, HJ5, BK655, BK656, HB⟩ := hcut
  cases kq with
  | zero => exact absurd HA.out (by simp [spec_ConnectJacobi.j0])
  | succ kj5 =>
   have H := HA.out
   clear HA
   simp only [spec_ConnectJacobi.j0] at H
   by_cases c20 : x18_5 = true
   ·subst c20
    have H1 : (some (([] : List Int), 1)) = some (r1, r2) := by rw [if_pos rfl] at H; exact H
    clear H
    have H := H1
    clear H1
    simp only [Option.some.injEq, Prod.mk.injEq] at H
    obtain ⟨rfl, rfl⟩ := H
    go_wp2
    go_ret2
    exact ⟨_, by first | rfl | (simp [errW_none, errW_some] <;> rfl) | (simp [*, errW_none, errW_some] <;> rfl), by first | exact Kd.R_nil _ _ _ _ _ | exact Kd.N_nil _ _ _ _ _ | exact Kd.V_nil _ _ _ _ _ | exact Kd.Q_nil _ _ _ _ _ | exact Kd.S_nil _ _ _ _ _, ZB⟩
   ·replace c20 := Bool.eq_false_iff.mpr c20
    subst c20
    have H1 : (if t660 = 0 then (if t664 = 0 then (spec_ConnectJacobi.j1 kj5 a2 (a0_0 != a1_0) a0_0 l0_1 l0_2 a1_0 l1_1 l1_2) else (spec_ConnectJacobi.j1 kj5 a2 true a0_0 l0_1 l0_2 a1_0 l1_1 l1_2)) else (spec_ConnectJacobi.j1 kj5 a2 true a0_0 l0_1 l0_2 a1_0 l1_1 l1_2)) = some (r1, r2) := by rw [if_neg (show ¬ (false = true) by decide)] at H; exact H
    clear H
    have H := H1
    clear H1
    have HC21 := Aside0.mk H
    clear H
    go_upto_region 4 with (fail)
    go_cut [25] (fun v25 wc => ∃ (kq : Nat) (x25_20 : Bool), v25 = .bool x25_20 ∧ Aside0 (spec_ConnectJacobi.j1 kq a2 x25_20 a0_0 l0_1 l0_2 a1_0 l1_1 l1_2 = some (r1, r2)) ∧ Aside0 (kq ≤ kj5) ∧ Aside0 (wc.heap[gb655]? = some (.cells #[.int .i64 a0_0, (.slice A0_1 l0_1.length c0_1), (.slice A0_2 l0_2.length c0_2)] 29 (0, 0))) ∧ Aside0 (wc.heap[gb656]? = some (.cells #[.int .i64 a1_0, (.slice A1_1 l1_1.length c1_1), (.slice A1_2 l1_2.length c1_2)] 29 (0, 0))) ∧ Aside0 (Below w.heap.size w wc))
    case first =>
     have H := HC21.out
     clear HC21
     by_cases c22 : t660 = 0
     ·rw [if_pos c22] at H
      have c22b0 : (t660 == 0) = true := beq_iff_eq.mpr c22
      have c22b1 : (t660 != 0) = false := bne_eq_false_iff_eq.mpr c22
      clear c22
      (first | rw [c22b0] | (simp only [i64_w, i32_w]; rw [c22b0]) | skip)
      by_cases c23 : t664 = 0
      ·rw [if_pos c23] at H
       have c23b0 : (t664 == 0) = true := beq_iff_eq.mpr c23
       have c23b1 : (t664 != 0) = false := bne_eq_false_iff_eq.mpr c23
       clear c23
       have H' := Aside0.mk H
       clear H
       have hnb24 := NB655_656.out
       have hnc24 := NB656_655.out
       obtain ⟨hcz25_0, hcz25_1, hcz25_2, hfz25_0, hfz25_1, hfz25_2⟩ := ZD3 BK655
       obtain ⟨hcz26_0, hcz26_1, hcz26_2, hfz26_0, hfz26_1, hfz26_2⟩ := ZD3 BK656
       go_wp2
       go_meet
       case rel => exact ⟨_, ((a0_0 != a1_0)), (by first | rfl | (simp; done) | (simp [*]; done)), H', ⟨by have := HJ5.out; first | omega | exact Nat.le_refl _⟩, ⟨ZK BK655⟩, ⟨ZK BK656⟩, ⟨ZB⟩⟩
      ·rw [if_neg c23] at H
       have c23b0 : (t664 == 0) = false := beq_eq_false_iff_ne.mpr c23
       have c23b1 : (t664 != 0) = true := bne_iff_ne.mpr c23
       have H' := Aside0.mk H
       clear H
       go_wp2
       go_meet
       case rel => exact ⟨_, (true), (by first | rfl | (simp; done) | (simp [*]; done)), H', ⟨by have := HJ5.out; first | omega | exact Nat.le_refl _⟩, ⟨ZK BK655⟩, ⟨ZK BK656⟩, ⟨ZB⟩⟩
     ·rw [if_neg c22] at H
      have c22b0 : (t660 == 0) = false := beq_eq_false_iff_ne.mpr c22
      have c22b1 : (t660 != 0) = true := bne_iff_ne.mpr c22
      (first | rw [c22b0] | (simp only [i64_w, i32_w]; rw [c22b0]) | skip)
      have H' := Aside0.mk H
      clear H
      go_wp2
      go_meet
      case rel => exact ⟨_, (true), (by first | rfl | (simp; done) | (simp [*]; done)), H', ⟨by have := HJ5.out; first | omega | exact Nat.le_refl _⟩, ⟨ZK BK655⟩, ⟨ZK BK656⟩, ⟨ZB⟩⟩
    case rest =>
     clear HC21
     try clear c1
     try clear c2
     try clear p2
     try clear c3
     try clear c7
     try clear c19
     try clear c19b0
     try clear c19b1
     try clear c20
     try clear c22
     try clear c22b0
     try clear c22b1
     try clear c23
     try clear c23b0
     try clear c23b1
     try clear c24
     try clear hcz25_0
     try clear hcz25_1
     try clear hcz25_2
     try clear hcz26_0
     try clear hcz26_1
     try clear hcz26_2
     try clear hfz25_0
     try clear hfz25_1
     try clear hfz25_2
     try clear hfz26_0
     try clear hfz26_1
     try clear hfz26_2
     try clear p2
     obtain ⟨kq, x25_20, rfl, HA, HJ20, BK655, BK656, HB⟩ := hcut
     cases kq with
     | zero => exact absurd HA.out (by simp [spec_ConnectJacobi.j1])
     | succ kj20 =>
      have H := HA.out
      clear HA
      simp only [spec_ConnectJacobi.j1] at H
      by_cases c27 : x25_20 = true
      ·subst c27
       have H1 : (some (([] : List Int), 2)) = some (r1, r2) := by rw [if_pos rfl] at H; exact H
       clear H
       have H := H1
       clear H1
       simp only [Option.some.injEq, Prod.mk.injEq] at H
       obtain ⟨rfl, rfl⟩ := H
       go_wp2
       go_ret2
       exact ⟨_, by first | rfl | (simp [errW_none, errW_some] <;> rfl) | (simp [*, errW_none, errW_some] <;> rfl), by first | exact Kd.R_nil _ _ _ _ _ | exact Kd.N_nil _ _ _ _ _ | exact Kd.V_nil _ _ _ _ _ | exact Kd.Q_nil _ _ _ _ _ | exact Kd.S_nil _ _ _ _ _, ZB⟩
      ·replace c27 := Bool.eq_false_iff.mpr c27
       subst c27
       have H1 : ((spec_l03Poly.f kj20 a0_0 l0_1 l0_2 a2).bind fun t665 => ((spec_l10Expand.f kj20 a1_0 l1_1 l1_2 t665).bind fun t668 => (some (t668, 0)))) = some (r1, r2) := by rw [if_neg (show ¬ (false = true) by decide)] at H; exact H
       clear H
       have H := H1
       clear H1
       replace H := Option.bind_eq_some_iff.mp H
       obtain ⟨t665, A280, H⟩ := H
       replace H : ((spec_l10Expand.f kj20 a1_0 l1_1 l1_2 t665).bind fun t668 => (some (t668, 0))) = some (r1, r2) := H
       have A28 := Aside0.mk A280
       clear A280
       replace H := Option.bind_eq_some_iff.mp H
       obtain ⟨t668, A290, H⟩ := H
       replace H : (some (t668, 0)) = some (r1, r2) := H
       have A29 := Aside0.mk A290
       clear A290
       simp only [Option.some.injEq, Prod.mk.injEq] at H
       obtain ⟨rfl, rfl⟩ := H
       try go_wp2
       have n0_ := Aside0.mk (blk_drew BK655.out)
       have n1_ := Aside0.mk (blk_drew BK656.out)
       have n2_ := Aside0.mk (below_drew1 HB.out)
       clear BK655
       clear BK656
       clear HB
       have BK655 := n0_
       have BK656 := n1_
       have HB := n2_
       clear n0_ n1_ n2_
       refine start_ (n := 7) (S := fun w' => w'.cell? ⟨gb656, 0, none⟩ = some (.int .i64 a1_0) ∧ w'.cell? ⟨gb656, 1, none⟩ = some (.slice A1_1 l1_1.length c1_1) ∧ w'.cell? ⟨gb656, 2, none⟩ = some (.slice A1_2 l1_2.length c1_2) ∧ w'.cell? ⟨gb655, 0, none⟩ = some (.int .i64 a0_0) ∧ w'.cell? ⟨gb655, 1, none⟩ = some (.slice A0_1 l0_1.length c0_1) ∧ w'.cell? ⟨gb655, 2, none⟩ = some (.slice A0_2 l0_2.length c0_2)) (ds := []) #[false, false, false, false, false, false, false] (by kernel_rfl) rfl rfl ⟨(blk_cell BK656.out 0).trans rfl, (blk_cell BK656.out 1).trans rfl, (blk_cell BK656.out 2).trans rfl, (blk_cell BK655.out 0).trans rfl, (blk_cell BK655.out 1).trans rfl, (blk_cell BK655.out 2).trans rfl⟩ (fun hHeld => ?_)
       generalize wc.drew = w30 at BK655 BK656 HB hHeld ⊢
       refine Zp 2 (some 41) (h := ?_)
       refine Zt6 0 (some 39) hHeld (h := ?_)
       refine Zt6 1 (some 40) hHeld (h := ?_)
       refine one_ (i := 3) (N := some 42) #[true, true, true, true, false, false, false] rfl rfl (by kernel_rfl) (by decide) (fun K hK => ?_)
       refine goes_ Try.func75 (by kernel_rfl) rfl #[.agg #[.int .i64 a0_0, .slice A0_1 l0_1.length c0_1, .slice A0_2 l0_2.length c0_2], .int .i64 a2] (by rfl) rfl rfl ZA ?_
       with_reducible refine (spec_l03Poly.calls kj20 a0_0 _ _ l0_1 _ _ l0_2 a2 t665 _ ?side1 ?side2 ?side3 ?side4 A28.out).mono ?_
       (case side1 => exact ZC HR0_1)
       (case side2 => exact HC0_1.out)
       (case side3 => exact ZC HR0_2)
       (case side4 => exact HC0_2.out)
       rintro e w31 ⟨v666, rfl, ho0, hb⟩
       refine ⟨_, rfl, ?_⟩
       have n0_ := Aside0.mk (Kd.R_lower ho0 (below_size ZB))
       have n1_ := ZL BK655 hb
       have n2_ := ZL BK656 hb
       have n3_ := Aside0.mk (below_step ZB hb)
       clear BK655
       clear BK656
       clear HB
       have HO667 := n0_
       have BK655 := n1_
       have BK656 := n2_
       have HB := n3_
       clear n0_ n1_ n2_ n3_
       (try clear hb)
       (try clear hb2)
       (try clear hk)
       (try clear hi)
       (try clear ho0)
       obtain ⟨Ao32, co32, eo32⟩ := Kd.R_slice HO667.out
       (first | subst eo32 | (injection eo32 with f1_ f2_ f3_; have f4_ := f1_.symm; have f5_ := f3_.symm; clear f1_ f2_ f3_; subst f4_; subst f5_))
       refine hK.out _ _ ⟨(blk_cell BK656.out 0).trans rfl, (blk_cell BK656.out 1).trans rfl, (blk_cell BK656.out 2).trans rfl, (blk_cell BK655.out 0).trans rfl, (blk_cell BK655.out 1).trans rfl, (blk_cell BK655.out 2).trans rfl⟩ (fun hHeld => ?_)
       clear hK K
       refine norm_ (a' := ?_) ?_ ?_
       rotate_left
       ·show Act.put _ (some 42) _ = _
        simp only [Act.put, List.setIfInBounds_toArray, List.set_cons_zero, List.set_cons_succ, i64_w, i32_w]
        rfl
       refine one_ (i := 4) (N := some 43) #[true, true, true, true, true, false, false] rfl rfl (by kernel_rfl) (by decide) (fun K hK => ?_)
       refine goes_ Try.func68 (by kernel_rfl) rfl #[.agg #[.int .i64 a1_0, .slice A1_1 l1_1.length c1_1, .slice A1_2 l1_2.length c1_2], .slice Ao32 t665.length co32] (by rfl) rfl rfl ZA ?_
       with_reducible refine (spec_l10Expand.calls kj20 a1_0 _ _ l1_1 _ _ l1_2 (fun k_ => some k_ = (.slice Ao32 t665.length co32 : Value).ownBlock) _ _ t665 t668 _ ?side1 ?side2 ?side3 ?side4 ?side5 A29.out).mono ?_
       (case side1 => exact ZC HR1_1)
       (case side2 => exact HC1_1.out)
       (case side3 => exact ZC HR1_2)
       (case side4 => exact HC1_2.out)
       (case side5 => exact Kd.R_V (Kd.R_tight rfl (Kd.R_types (Kd.R_types (HO667.out) BK655.out (by decide)) BK656.out (by decide))))
       rintro e w33 ⟨v669, rfl, ho0, hb⟩
       refine ⟨_, rfl, ?_⟩
       have n0_ := Aside0.mk (Kd.R_elder' (ZR HO667) (Kd.R_base ho0) hb)
       have n1_ := Aside0.mk (Kd.R_lower (Kd.R_new' (Kd.R_mono (ok' := fun k_ => True) ho0 (fun _ hk_ => trivial)) (Kd.R_lt (ZR HO667))) (below_size ZB))
       have n2_ := ZL BK655 hb
       have n3_ := ZL BK656 hb
       have n4_ := Aside0.mk (below_step ZB hb)
       clear HO667
       clear BK655
       clear BK656
       clear HB
       have HO667 := n0_
       have HO670 := n1_
       have BK655 := n2_
       have BK656 := n3_
       have HB := n4_
       clear n0_ n1_ n2_ n3_ n4_
       (try clear hb)
       (try clear hb2)
       (try clear hk)
       (try clear hi)
       (try clear ho0)
       refine hK.out _ _ ⟨(blk_cell BK656.out 0).trans rfl, (blk_cell BK656.out 1).trans rfl, (blk_cell BK656.out 2).trans rfl, (blk_cell BK655.out 0).trans rfl, (blk_cell BK655.out 1).trans rfl, (blk_cell BK655.out 2).trans rfl⟩ (fun hHeld => ?_)
       clear hK K
       refine norm_ (a' := ?_) ?_ ?_
       rotate_left
       ·show Act.put _ (some 43) _ = _
        simp only [Act.put, List.setIfInBounds_toArray, List.set_cons_zero, List.set_cons_succ, i64_w, i32_w]
        rfl
       refine Zp 5 (some 6) (h := ?_)
       refine Zp 6 (some 7) (h := ?_)
       refine done_ (by kernel_rfl) ?_
       try go_wp2
       go_ret2
       exact ⟨_, by first | rfl | (simp [errW_none, errW_some] <;> rfl) | (simp [*, errW_none, errW_some] <;> rfl), by refine ZQ ?_; exact Kd.R_mono HO670.out (fun _ hk => trivial), ZB⟩

end Go.Proofs.Ytaclapojgdekpaa.X
