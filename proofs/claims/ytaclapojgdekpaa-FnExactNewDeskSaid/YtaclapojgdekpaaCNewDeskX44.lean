/- Contracts of functions that the law reaches, printed by a program of this session; Lean checks them. -/
import Derived.Test.YtaclapojgdekpaaCNewDeskX0
import Derived.Test.YtaclapojgdekpaaCNewDeskX10
import Derived.Test.YtaclapojgdekpaaCNewDeskX43
import Derived.Test.YtaclapojgdekpaaCNewDeskX5
import Derived.Test.YtaclapojgdekpaaCNewDeskX7
import Derived.Test.YtaclapojgdekpaaCNewDeskXZ
namespace Go.Proofs.Ytaclapojgdekpaa.X
open Go.RowKit Go.Proofs.YtaclapojgdekpaaW.PrintWords Go.Proofs.YtaclapojgdekpaaW.PrintLast Go.Proofs.YtaclapojgdekpaaW.PrintMore
attribute [local go_sem] max2_int min2_int max_two min_two max_three min_three max_four min_four   -- for this text's walks alone
set_option linter.unusedVariables false
set_option linter.unusedSimpArgs false

/-! ### impl_NamedJacobi: function 117 -/
mutual
def impl_NamedJacobi.j0 : Nat → ByteArray → Int → Int → Bool → Option (Int × List Int × List Int × Int)
 | 0, _, _, _, _ => none
 | k + 1, x0, x1, x2, x21 => if x21 = true then (some (0, ([] : List Int), ([] : List Int), 2)) else (impl_NamedJacobi.l0 k x0 x1 x2 0 x1 ([] : List Int) ([] : List Int))
def impl_NamedJacobi.l0 : Nat → ByteArray → Int → Int → Int → Int → List Int → List Int → Option (Int × List Int × List Int × Int)
 | 0, _, _, _, _, _, _, _ => none
 | k + 1, x0, x8, x26, x27, x1489000, x1489001, x1489002 => if x27 < x26 then ((impl_namedBeta.f k x0 x27).bind fun bt1489 => (if bt1489.2.2 = true then ((impl_field_mod.f x8 bt1489.1).bind fun t1492 => (if t1492 = 0 then (some (0, ([] : List Int), ([] : List Int), 5)) else ((impl_field_mod.f x8 bt1489.2.1).bind fun t1493 => (if t1493 = 0 then (some (0, ([] : List Int), ([] : List Int), 5)) else ((impl_namedAlpha.f x0 x27).bind fun t1494 => ((impl_field_mod.f x8 t1494).bind fun t1495 => (if x1489001.length < 17592186044416 then ((impl_field_mod.f x8 bt1489.1).bind fun t1499 => ((impl_field_mod.f x8 bt1489.2.1).bind fun t1500 => ((impl_field_div.f k x8 t1499 t1500).bind fun t1501 => (if x1489002.length < 17592186044416 then (impl_NamedJacobi.l0 k x0 x8 x26 (wrap64 (x27 + 1)) x1489000 (x1489001 ++ [t1495]) (x1489002 ++ [t1501])) else (none))))) else (none)))))))) else (some (0, ([] : List Int), ([] : List Int), 4)))) else (some (x1489000, x1489001, x1489002, 0))
end
def impl_NamedJacobi.f (k : Nat) (a0 : ByteArray) (a1 : Int) (a2 : Int) : Option (Int × List Int × List Int × Int) := (impl_IsPrime.f k a1).bind fun t1486 => (if t1486 = true then ((impl_within.f a2 1 12).bind fun t1487 => (impl_NamedJacobi.j0 k a0 a1 a2 (!t1487))) else (impl_NamedJacobi.j0 k a0 a1 a2 true))
theorem impl_NamedJacobi.mono_l : ∀ k, (∀ y0 y1 y2 y3, LeO (impl_NamedJacobi.j0 k y0 y1 y2 y3) (impl_NamedJacobi.j0 (k + 1) y0 y1 y2 y3)) ∧ (∀ y0 y1 y2 y3 y4 y5 y6, LeO (impl_NamedJacobi.l0 k y0 y1 y2 y3 y4 y5 y6) (impl_NamedJacobi.l0 (k + 1) y0 y1 y2 y3 y4 y5 y6))
 | 0 => ⟨fun _ _ _ _ r h => by simp [impl_NamedJacobi.j0] at h, fun _ _ _ _ _ _ _ r h => by simp [impl_NamedJacobi.l0] at h⟩
 | k + 1 => by
  obtain ⟨ih0, ih1⟩ := impl_NamedJacobi.mono_l k
  refine ⟨?_, ?_⟩
  ·intro y0 y1 y2 y3
   unfold impl_NamedJacobi.j0
   repeat' first
   | (with_reducible exact ih0 _ _ _ _)
   | (with_reducible exact ih1 _ _ _ _ _ _ _)
   | (with_reducible exact impl_IsPrime.mono _ _)
   | (with_reducible exact impl_field_div.mono _ _ _ _)
   | (with_reducible exact impl_namedBeta.mono _ _ _)
   | (with_reducible exact LeO.refl _)
   | (with_reducible exact LeO.none _)
   | (with_reducible refine LeO.ite ?_ ?_)
   | (with_reducible refine LeO.bind ?_ (fun _ => ?_))
   | exact ih0 _ _ _ _
   | exact ih1 _ _ _ _ _ _ _
   | exact impl_IsPrime.mono _ _
   | exact impl_field_div.mono _ _ _ _
   | exact impl_namedBeta.mono _ _ _
   | exact LeO.none _
   | refine LeO.ite ?_ ?_
   | refine LeO.bind ?_ (fun _ => ?_)
  ·intro y0 y1 y2 y3 y4 y5 y6
   unfold impl_NamedJacobi.l0
   repeat' first
   | (with_reducible exact ih0 _ _ _ _)
   | (with_reducible exact ih1 _ _ _ _ _ _ _)
   | (with_reducible exact impl_IsPrime.mono _ _)
   | (with_reducible exact impl_field_div.mono _ _ _ _)
   | (with_reducible exact impl_namedBeta.mono _ _ _)
   | (with_reducible exact LeO.refl _)
   | (with_reducible exact LeO.none _)
   | (with_reducible refine LeO.ite ?_ ?_)
   | (with_reducible refine LeO.bind ?_ (fun _ => ?_))
   | exact ih0 _ _ _ _
   | exact ih1 _ _ _ _ _ _ _
   | exact impl_IsPrime.mono _ _
   | exact impl_field_div.mono _ _ _ _
   | exact impl_namedBeta.mono _ _ _
   | exact LeO.none _
   | refine LeO.ite ?_ ?_
   | refine LeO.bind ?_ (fun _ => ?_)
theorem impl_NamedJacobi.mono : ∀ a0 a1 a2 k, LeO (impl_NamedJacobi.f k a0 a1 a2) (impl_NamedJacobi.f (k + 1) a0 a1 a2) := by
 intro a0 a1 a2 k
 obtain ⟨ih0, ih1⟩ := impl_NamedJacobi.mono_l k
 unfold impl_NamedJacobi.f
 repeat' first
   | (with_reducible exact ih0 _ _ _ _)
   | (with_reducible exact ih1 _ _ _ _ _ _ _)
   | (with_reducible exact impl_IsPrime.mono _ _)
   | (with_reducible exact impl_field_div.mono _ _ _ _)
   | (with_reducible exact impl_namedBeta.mono _ _ _)
   | (with_reducible exact LeO.refl _)
   | (with_reducible exact LeO.none _)
   | (with_reducible refine LeO.ite ?_ ?_)
   | (with_reducible refine LeO.bind ?_ (fun _ => ?_))
   | exact ih0 _ _ _ _
   | exact ih1 _ _ _ _ _ _ _
   | exact impl_IsPrime.mono _ _
   | exact impl_field_div.mono _ _ _ _
   | exact impl_namedBeta.mono _ _ _
   | exact LeO.none _
   | refine LeO.ite ?_ ?_
   | refine LeO.bind ?_ (fun _ => ?_)
def impl_NamedJacobi.T13 : Bool × List (List Nat × List Nat) := (true, [([], []), ([0], [0]), ([], []), ([], []), ([], []), ([3, 4], [3, 4]), ([2, 5, 5], [2, 5]), ([6], [6]), ([1, 7, 6], [1, 7]), ([], []), ([9], [9]), ([], []), ([], []), ([], []), ([12, 13, 8], [12, 13]), ([], []), ([], []), ([15, 16, 14], [15, 16]), ([11, 14, 17, 17], [11, 14, 17]), ([18], [18]), ([10, 19, 18], [10, 19]), ([0, 1, 2, 3, 4, 5, 6, 7, 8, 9, 10], []), ([21, 8, 20, 0, 1, 2, 3, 4, 5, 6, 7, 8, 9, 10], [8, 21]), ([0, 1, 2, 3, 4, 5, 6, 7, 8, 9, 10, 11, 12, 13, 14, 15, 16, 17, 18, 19, 20, 21, 22], []), ([23, 20, 22, 0, 1, 2, 3, 4, 5, 6, 7, 8, 9, 10, 11, 12, 13, 14, 15, 16, 17, 18, 19, 20, 21, 22], [20, 23])])
def impl_NamedJacobi.B13 : List Nat := [0, 1, 0, 0, 0, 24, 60, 124, 255, 0, 512, 0, 0, 0, 12799, 0, 0, 127487, 260607, 522751, 1048575, 2047, 4194303, 8388607, 16777215]
theorem impl_NamedJacobi.tab13 : rtab .any (opsOf Try.f117 13) = impl_NamedJacobi.T13 := by kernel_rfl
theorem impl_NamedJacobi.bits13 : waitsOk impl_NamedJacobi.T13.2 impl_NamedJacobi.B13 = true := by kernel_rfl
set_option maxHeartbeats 8000000 in
set_option maxRecDepth 100000 in
theorem impl_NamedJacobi.calls (k : Nat) (a0 : ByteArray) (a1 : Int) (a2 : Int) (r1 : Int) (r2 : List Int) (r3 : List Int) (r4 : Int) (w : World) (h : impl_NamedJacobi.f k a0 a1 a2 = some (r1, r2, r3, r4)) :
  Calls Try.prog 117 #[.string a0, .int .i64 a1, .int .i64 a2] w fun e w' => ∃ v1_ v2_ : Value, e = .returned (.tuple #[.agg #[.int .i64 r1, v1_, v2_], .int .i64 r4]) ∧ Kd.R (Kd.int .i64) 2 w' w.heap.size (fun k_ => some k_ ≠ (v2_ : Value).ownBlock) v1_ r2 ∧ Kd.R (Kd.int .i64) 2 w' w.heap.size (fun k_ => some k_ ≠ (v1_ : Value).ownBlock) v2_ r3 ∧ Below w.heap.size w w' := by
 have hu29 := Try.underlying29
 have HB := Aside0.mk (Below.refl w.heap.size w)
 have H : ((impl_IsPrime.f k a1).bind fun t1486 => (if t1486 = true then ((impl_within.f a2 1 12).bind fun t1487 => (impl_NamedJacobi.j0 k a0 a1 a2 (!t1487))) else (impl_NamedJacobi.j0 k a0 a1 a2 true))) = some (r1, r2, r3, r4) := h
 clear h
 have HC4 := Aside0.mk H
 clear H
 go_enter Try.func117, Try.ntmps117
 go_upto_region 1 with (first | ((with_reducible refine gate_dst (N := 6) rfl ?_); refine box_event ?hg (N := 6) ?hd (cs := #[.int .i64 0, .slice none 0 0, .slice none 0 0]) (t := 29) ?hr ?_; (case hd => rfl); (case hg => rfl); (case hr => first | (go_simp; done) | (go_simp; rfl)); intro gb1485 hg w5 hbox hb; have n0_ := Aside0.mk (below_step ZB hb); have n1_ := Aside0.mk (hbox); have n2_ := Aside0.mk ((ZG hg : w.heap.size ≤ gb1485)); have n3_ := Aside0.mk ((ZG hg : w.heap.size ≤ gb1485)); clear HB; have HB := n0_; have BK1485 := n1_; have GW1485 := n2_; have GE1485 := n3_; clear n0_ n1_ n2_ n3_; clear hb hbox hg))
 (try simp only [Act.put, List.setIfInBounds_toArray, List.set_cons_zero, List.set_cons_succ])
 go_cut [21] (fun v21 wc => ∃ (kq : Nat) (x21_3 : Bool), v21 = .bool x21_3 ∧ Aside0 (impl_NamedJacobi.j0 kq a0 a1 a2 x21_3 = some (r1, r2, r3, r4)) ∧ Aside0 (kq ≤ k) ∧ Aside0 (wc.heap[gb1485]? = some (.cells #[.int .i64 0, (.slice none 0 0), (.slice none 0 0)] 29 (0, 0))) ∧ Aside0 (Below w.heap.size w wc))
 case first =>
  have H := HC4.out
  clear HC4
  replace H := Option.bind_eq_some_iff.mp H
  obtain ⟨t1486, A60, H⟩ := H
  replace H : (if t1486 = true then ((impl_within.f a2 1 12).bind fun t1487 => (impl_NamedJacobi.j0 k a0 a1 a2 (!t1487))) else (impl_NamedJacobi.j0 k a0 a1 a2 true)) = some (r1, r2, r3, r4) := H
  have A6 := Aside0.mk A60
  clear A60
  by_cases c7 : t1486 = true
  ·subst c7
   have H1 : ((impl_within.f a2 1 12).bind fun t1487 => (impl_NamedJacobi.j0 k a0 a1 a2 (!t1487))) = some (r1, r2, r3, r4) := by rw [if_pos rfl] at H; exact H
   clear H
   have H := H1
   clear H1
   replace H := Option.bind_eq_some_iff.mp H
   obtain ⟨t1487, A80, H⟩ := H
   replace H : (impl_NamedJacobi.j0 k a0 a1 a2 (!t1487)) = some (r1, r2, r3, r4) := H
   have A8 := Aside0.mk A80
   clear A80
   have H' := Aside0.mk H
   clear H
   go_wp2_with (first | ((with_reducible refine gate_callee (f := 104) rfl ?_); refine goesL_ (some 15) rfl rfl Try.func104 (by kernel_rfl) rfl #[.int .i64 a1] rfl ZA ?_; (with_reducible refine (impl_IsPrime.calls k a1 true _ A6.out).mono ?_); rintro e w' ⟨rfl, ⟨nd, rfl⟩⟩; refine ⟨_, rfl, ?_⟩) | (go_at_call 76; (with_reducible refine (impl_within.calls a2 1 12 t1487 _ A8.out).mono ?_); rintro e w' ⟨rfl, ⟨nd, rfl⟩⟩))
   go_meet
   case rel => exact ⟨_, (!t1487), (by first | rfl | (simp; done) | (simp [*]; done)), H', ⟨by first | omega | exact Nat.le_refl _⟩, ⟨ZK BK1485⟩, ⟨ZB⟩⟩
  ·replace c7 := Bool.eq_false_iff.mpr c7
   subst c7
   have H1 : (impl_NamedJacobi.j0 k a0 a1 a2 true) = some (r1, r2, r3, r4) := by rw [if_neg (show ¬ (false = true) by decide)] at H; exact H
   clear H
   have H := H1
   clear H1
   have H' := Aside0.mk H
   clear H
   go_wp2_with (first | ((with_reducible refine gate_callee (f := 104) rfl ?_); refine goesL_ (some 15) rfl rfl Try.func104 (by kernel_rfl) rfl #[.int .i64 a1] rfl ZA ?_; (with_reducible refine (impl_IsPrime.calls k a1 false _ A6.out).mono ?_); rintro e w' ⟨rfl, ⟨nd, rfl⟩⟩; refine ⟨_, rfl, ?_⟩))
   go_meet
   case rel => exact ⟨_, (true), (by first | rfl | (simp; done) | (simp [*]; done)), H', ⟨by first | omega | exact Nat.le_refl _⟩, ⟨ZK BK1485⟩, ⟨ZB⟩⟩
 case rest =>
  clear HC4
  try clear c1
  try clear p2
  try clear c7
  obtain ⟨kq, x21_3, rfl, HA, HJ3, BK1485, HB⟩ := hcut
  cases kq with
  | zero => exact absurd HA.out (by simp [impl_NamedJacobi.j0])
  | succ kj3 =>
   have H := HA.out
   clear HA
   simp only [impl_NamedJacobi.j0] at H
   by_cases c9 : x21_3 = true
   ·subst c9
    have H1 : (some (0, ([] : List Int), ([] : List Int), 2)) = some (r1, r2, r3, r4) := by rw [if_pos rfl] at H; exact H
    clear H
    have H := H1
    clear H1
    simp only [Option.some.injEq, Prod.mk.injEq] at H
    obtain ⟨rfl, rfl, rfl, rfl⟩ := H
    obtain ⟨hcz10_0, hcz10_1, hcz10_2, hfz10_0, hfz10_1, hfz10_2⟩ := ZD3 BK1485
    go_wp2
    refine bodyPost_ret (results_ct rfl _ _ gb1485 29 #[.int .i64 0, .slice none 0 0, .slice none 0 0] (0, 0) _ rfl (by refine ZS ?_; refine blk_put (cs := #[.int .i64 0, .slice none 0 0, .slice none 0 0]) ?_ 2 _ rfl; refine ZS ?_; refine blk_put (cs := #[.int .i64 0, .slice none 0 0, .slice none 0 0]) ?_ 1 _ rfl; refine ZS ?_; refine blk_put (cs := #[.int .i64 0, .slice none 0 0, .slice none 0 0]) ?_ 0 _ rfl; refine ZS ?_; exact BK1485.out) Try.underlying29 rfl (by kernel_rfl)) rfl ?_
    exact ⟨_, _, by first | rfl | (simp [errW_none, errW_some] <;> rfl) | (simp [*, errW_none, errW_some] <;> rfl), by first | exact Kd.R_nil _ _ _ _ _ | exact Kd.N_nil _ _ _ _ _ | exact Kd.V_nil _ _ _ _ _ | exact Kd.Q_nil _ _ _ _ _ | exact Kd.S_nil _ _ _ _ _, by first | exact Kd.R_nil _ _ _ _ _ | exact Kd.N_nil _ _ _ _ _ | exact Kd.V_nil _ _ _ _ _ | exact Kd.Q_nil _ _ _ _ _ | exact Kd.S_nil _ _ _ _ _, ZB⟩
   ·replace c9 := Bool.eq_false_iff.mpr c9
    subst c9
    have H1 : (impl_NamedJacobi.l0 kj3 a0 a1 a2 0 a1 ([] : List Int) ([] : List Int)) = some (r1, r2, r3, r4) := by rw [if_neg (show ¬ (false = true) by decide)] at H; exact H
    clear H
    have H := H1
    clear H1
    have H' := Aside0.mk H
    clear H
    go_wp2_with (first | ((with_reducible refine gate_dst (N := 9) rfl ?_); refine box_event ?hg (N := 9) ?hd (cs := #[.int .i64 0, .slice none 0 0, .slice none 0 0]) (t := 29) ?hr ?_; (case hd => rfl); (case hg => rfl); (case hr => first | (go_simp; done) | (go_simp; rfl)); intro gb1488 hg w11 hbox hb; have n0_ := ZL BK1485 hb; have n1_ := Aside0.mk (below_step ZB hb); have n2_ := Aside0.mk (hbox); have n3_ := Aside0.mk ((ZG hg : w.heap.size ≤ gb1488)); have n4_ := Aside0.mk ((ZG hg : w.heap.size ≤ gb1488)); have n5_ := Aside0.mk ((ZN hg BK1485 : gb1485 ≠ gb1488)); have n6_ := Aside0.mk ((ZM hg BK1485 : gb1488 ≠ gb1485)); clear BK1485; clear HB; have BK1485 := n0_; have HB := n1_; have BK1488 := n2_; have GW1488 := n3_; have GE1488 := n4_; have NB1485_1488 := n5_; have NB1488_1485 := n6_; clear n0_ n1_ n2_ n3_ n4_ n5_ n6_; clear hb hbox hg; have hnb12 := NB1488_1485.out; have hnc12 := NB1485_1488.out; obtain ⟨hcz13_0, hcz13_1, hcz13_2, hfz13_0, hfz13_1, hfz13_2⟩ := ZD3 BK1488))
    go_loopg [27] kj3 (fun kq v27 w' => ∃ (x27_2 : Int) (x1486000_2 : Int) (x1489001_2 : List Int) (x1489002_2 : List Int) (u1489001 : Value) (u1489002 : Value), v27 = .int .i64 x27_2 ∧ Aside0 (impl_NamedJacobi.l0 kq a0 a1 a2 x27_2 a1 x1489001_2 x1489002_2 = some (r1, r2, r3, r4)) ∧ Aside0 (kq ≤ kj3) ∧ Aside0 (Kd.R (Kd.int .i64) 2 w' w.heap.size (fun k_ => some k_ ≠ (u1489002 : Value).ownBlock) u1489001 x1489001_2) ∧ Aside0 (Kd.R (Kd.int .i64) 2 w' w.heap.size (fun k_ => some k_ ≠ (u1489001 : Value).ownBlock) u1489002 x1489002_2) ∧ Aside0 (w'.heap[gb1485]? = some (.cells #[.int .i64 x1486000_2, (.slice none 0 0), (.slice none 0 0)] 29 (0, 0))) ∧ Aside0 (w'.heap[gb1488]? = some (.cells #[.int .i64 a1, u1489001, u1489002] 29 (0, 0))) ∧ Aside0 (Below w.heap.size w w'))
    case atStart => exact ⟨(0), (0), (([] : List Int)), (([] : List Int)), (.slice none 0 0), (.slice none 0 0), (by first | rfl | (simp; done) | (simp [*]; done)), H', ⟨Nat.le_refl _⟩, ⟨by first | exact Kd.R_nil _ _ _ _ _ | exact Kd.N_nil _ _ _ _ _ | exact Kd.V_nil _ _ _ _ _ | exact Kd.Q_nil _ _ _ _ _ | exact Kd.S_nil _ _ _ _ _⟩, ⟨by first | exact Kd.R_nil _ _ _ _ _ | exact Kd.N_nil _ _ _ _ _ | exact Kd.V_nil _ _ _ _ _ | exact Kd.Q_nil _ _ _ _ _ | exact Kd.S_nil _ _ _ _ _⟩, ⟨by refine ZS ?_; refine blk_far ?_ NB1485_1488.out _; refine ZS ?_; refine blk_far ?_ NB1485_1488.out _; refine ZS ?_; refine blk_far ?_ NB1485_1488.out _; refine ZS ?_; exact BK1485.out⟩, ⟨by refine ZS ?_; refine blk_put (cs := #[.int .i64 a1, .slice none 0 0, .slice none 0 0]) ?_ 2 _ rfl; refine ZS ?_; refine blk_put (cs := #[.int .i64 a1, .slice none 0 0, .slice none 0 0]) ?_ 1 _ rfl; refine ZS ?_; refine blk_put (cs := #[.int .i64 0, .slice none 0 0, .slice none 0 0]) ?_ 0 _ rfl; refine ZS ?_; exact BK1488.out⟩, ⟨ZB⟩⟩
    case round =>
     clear H'
     try clear c1
     try clear p2
     try clear c7
     try clear c9
     try clear c10
     try clear c11
     try clear c12
     try clear hcz10_0
     try clear hcz10_1
     try clear hcz10_2
     try clear hcz13_0
     try clear hcz13_1
     try clear hcz13_2
     try clear hfz10_0
     try clear hfz10_1
     try clear hfz10_2
     try clear hfz13_0
     try clear hfz13_1
     try clear hfz13_2
     try clear p2
     obtain ⟨x27_2, x1486000_2, x1489001_2, x1489002_2, u1489001, u1489002, rfl, HA, HK2, HO_1489001, HO_1489002, BK1485, BK1488, HB⟩ := hrel
     cases gk with
     | zero => exact absurd HA.out (by simp [impl_NamedJacobi.l0])
     | succ k2 =>
      have H := HA.out
      clear HA
      simp only [impl_NamedJacobi.l0] at H
      by_cases c14 : x27_2 < a2
      ·rw [if_pos c14] at H
       have c14b0 : decide (x27_2 < a2) = true := decide_eq_true c14
       clear c14
       replace H := Option.bind_eq_some_iff.mp H
       obtain ⟨⟨t1489, t1490, t1491⟩, A150, H⟩ := H
       replace H : (if t1491 = true then ((impl_field_mod.f a1 t1489).bind fun t1492 => (if t1492 = 0 then (some (0, ([] : List Int), ([] : List Int), 5)) else ((impl_field_mod.f a1 t1490).bind fun t1493 => (if t1493 = 0 then (some (0, ([] : List Int), ([] : List Int), 5)) else ((impl_namedAlpha.f a0 x27_2).bind fun t1494 => ((impl_field_mod.f a1 t1494).bind fun t1495 => (if x1489001_2.length < 17592186044416 then ((impl_field_mod.f a1 t1489).bind fun t1499 => ((impl_field_mod.f a1 t1490).bind fun t1500 => ((impl_field_div.f k2 a1 t1499 t1500).bind fun t1501 => (if x1489002_2.length < 17592186044416 then (impl_NamedJacobi.l0 k2 a0 a1 a2 (wrap64 (x27_2 + 1)) a1 (x1489001_2 ++ [t1495]) (x1489002_2 ++ [t1501])) else (none))))) else (none)))))))) else (some (0, ([] : List Int), ([] : List Int), 4))) = some (r1, r2, r3, r4) := H
       have A15 := Aside0.mk A150
       clear A150
       by_cases c16 : t1491 = true
       ·subst c16
        have H1 : ((impl_field_mod.f a1 t1489).bind fun t1492 => (if t1492 = 0 then (some (0, ([] : List Int), ([] : List Int), 5)) else ((impl_field_mod.f a1 t1490).bind fun t1493 => (if t1493 = 0 then (some (0, ([] : List Int), ([] : List Int), 5)) else ((impl_namedAlpha.f a0 x27_2).bind fun t1494 => ((impl_field_mod.f a1 t1494).bind fun t1495 => (if x1489001_2.length < 17592186044416 then ((impl_field_mod.f a1 t1489).bind fun t1499 => ((impl_field_mod.f a1 t1490).bind fun t1500 => ((impl_field_div.f k2 a1 t1499 t1500).bind fun t1501 => (if x1489002_2.length < 17592186044416 then (impl_NamedJacobi.l0 k2 a0 a1 a2 (wrap64 (x27_2 + 1)) a1 (x1489001_2 ++ [t1495]) (x1489002_2 ++ [t1501])) else (none))))) else (none)))))))) = some (r1, r2, r3, r4) := by rw [if_pos rfl] at H; exact H
        clear H
        have H := H1
        clear H1
        replace H := Option.bind_eq_some_iff.mp H
        obtain ⟨t1492, A170, H⟩ := H
        replace H : (if t1492 = 0 then (some (0, ([] : List Int), ([] : List Int), 5)) else ((impl_field_mod.f a1 t1490).bind fun t1493 => (if t1493 = 0 then (some (0, ([] : List Int), ([] : List Int), 5)) else ((impl_namedAlpha.f a0 x27_2).bind fun t1494 => ((impl_field_mod.f a1 t1494).bind fun t1495 => (if x1489001_2.length < 17592186044416 then ((impl_field_mod.f a1 t1489).bind fun t1499 => ((impl_field_mod.f a1 t1490).bind fun t1500 => ((impl_field_div.f k2 a1 t1499 t1500).bind fun t1501 => (if x1489002_2.length < 17592186044416 then (impl_NamedJacobi.l0 k2 a0 a1 a2 (wrap64 (x27_2 + 1)) a1 (x1489001_2 ++ [t1495]) (x1489002_2 ++ [t1501])) else (none))))) else (none))))))) = some (r1, r2, r3, r4) := H
        have A17 := Aside0.mk A170
        clear A170
        by_cases c18 : t1492 = 0
        ·rw [if_pos c18] at H
         have c18b0 : (t1492 == 0) = true := beq_iff_eq.mpr c18
         have c18b1 : (t1492 != 0) = false := bne_eq_false_iff_eq.mpr c18
         clear c18
         simp only [Option.some.injEq, Prod.mk.injEq] at H
         obtain ⟨rfl, rfl, rfl, rfl⟩ := H
         go_wp2_with (first | ((with_reducible refine gate_callee (f := 126) rfl ?_); refine goesL_ (some 33) rfl rfl Try.func126 (by kernel_rfl) rfl #[.string a0, .int .i64 x27_2] rfl ZA ?_; (with_reducible refine (impl_namedBeta.calls k2 a0 x27_2 t1489 t1490 true _ A15.out).mono ?_); rintro e w19 ⟨rfl, hb⟩; refine ⟨_, rfl, ?_⟩; have n0_ := Aside0.mk (Kd.R_below (ZR HO_1489001) hb); have n1_ := Aside0.mk (Kd.R_below (ZR HO_1489002) hb); have n2_ := ZL BK1485 hb; have n3_ := ZL BK1488 hb; have n4_ := Aside0.mk (below_step ZB hb); clear HO_1489001; clear HO_1489002; clear BK1485; clear BK1488; clear HB; have HO_1489001 := n0_; have HO_1489002 := n1_; have BK1485 := n2_; have BK1488 := n3_; have HB := n4_; clear n0_ n1_ n2_ n3_ n4_; (try clear hb); (try clear hb2); (try clear hk); (try clear hi)) | ((with_reducible refine gate_callee (f := 97) rfl ?_); refine goesL_ (some 44) rfl rfl Try.func97 (by kernel_rfl) rfl #[.int .i64 a1, .int .i64 t1489] rfl ZA ?_; (with_reducible refine (impl_field_mod.calls a1 t1489 t1492 _ A17.out).mono ?_); rintro e w' ⟨rfl, ⟨nd, rfl⟩⟩; refine ⟨_, rfl, ?_⟩; (try (rw [drewN_self w19]; generalize hq_ : World.drewN w19 _ = w19; have n0_ : Aside0 (Kd.R (Kd.int .i64) 2 w19 w.heap.size (fun k_ => some k_ ≠ (u1489002 : Value).ownBlock) u1489001 x1489001_2) := ⟨by rw [← hq_]; exact (ZR HO_1489001)⟩; have n1_ : Aside0 (Kd.R (Kd.int .i64) 2 w19 w.heap.size (fun k_ => some k_ ≠ (u1489001 : Value).ownBlock) u1489002 x1489002_2) := ⟨by rw [← hq_]; exact (ZR HO_1489002)⟩; have n2_ : Aside0 (w19.heap[gb1485]? = some (.cells #[.int .i64 x1486000_2, .slice none 0 0, .slice none 0 0] 29 (0, 0))) := ⟨by rw [← hq_]; exact (ZK BK1485)⟩; have n3_ : Aside0 (w19.heap[gb1488]? = some (.cells #[.int .i64 a1, u1489001, u1489002] 29 (0, 0))) := ⟨by rw [← hq_]; exact (ZK BK1488)⟩; have n4_ : Aside0 (Below w.heap.size w w19) := ⟨by rw [← hq_]; exact ZB⟩; clear HO_1489001 HO_1489002 BK1485 BK1488 HB hq_; have HO_1489001 := n0_; have HO_1489002 := n1_; have BK1485 := n2_; have BK1488 := n3_; have HB := n4_; clear n0_ n1_ n2_ n3_ n4_)); (try (obtain ⟨hcy1485_0, hcy1485_1, hcy1485_2, hfy1485_0, hfy1485_1, hfy1485_2⟩ := ZD3 BK1485)); (try (obtain ⟨hcy1488_0, hcy1488_1, hcy1488_2, hfy1488_0, hfy1488_1, hfy1488_2⟩ := ZD3 BK1488)); have hnb20 := NB1485_1488.out; have hnc20 := NB1488_1485.out; obtain ⟨hcz21_0, hcz21_1, hcz21_2, hfz21_0, hfz21_1, hfz21_2⟩ := ZD3 BK1485))
         refine bodyPost_ret (results_ct rfl _ _ gb1485 29 #[.int .i64 0, .slice none 0 0, .slice none 0 0] (0, 0) _ rfl (by refine ZS ?_; refine blk_put (cs := #[.int .i64 0, .slice none 0 0, .slice none 0 0]) ?_ 2 _ rfl; refine ZS ?_; refine blk_put (cs := #[.int .i64 0, .slice none 0 0, .slice none 0 0]) ?_ 1 _ rfl; refine ZS ?_; refine blk_put (cs := #[.int .i64 x1486000_2, .slice none 0 0, .slice none 0 0]) ?_ 0 _ rfl; refine ZS ?_; exact BK1485.out) Try.underlying29 rfl (by kernel_rfl)) rfl ?_
         exact ⟨_, _, by first | rfl | (simp [errW_none, errW_some] <;> rfl) | (simp [*, errW_none, errW_some] <;> rfl), by first | exact Kd.R_nil _ _ _ _ _ | exact Kd.N_nil _ _ _ _ _ | exact Kd.V_nil _ _ _ _ _ | exact Kd.Q_nil _ _ _ _ _ | exact Kd.S_nil _ _ _ _ _, by first | exact Kd.R_nil _ _ _ _ _ | exact Kd.N_nil _ _ _ _ _ | exact Kd.V_nil _ _ _ _ _ | exact Kd.Q_nil _ _ _ _ _ | exact Kd.S_nil _ _ _ _ _, ZB⟩
        ·rw [if_neg c18] at H
         have c18b0 : (t1492 == 0) = false := beq_eq_false_iff_ne.mpr c18
         have c18b1 : (t1492 != 0) = true := bne_iff_ne.mpr c18
         replace H := Option.bind_eq_some_iff.mp H
         obtain ⟨t1493, A220, H⟩ := H
         replace H : (if t1493 = 0 then (some (0, ([] : List Int), ([] : List Int), 5)) else ((impl_namedAlpha.f a0 x27_2).bind fun t1494 => ((impl_field_mod.f a1 t1494).bind fun t1495 => (if x1489001_2.length < 17592186044416 then ((impl_field_mod.f a1 t1489).bind fun t1499 => ((impl_field_mod.f a1 t1490).bind fun t1500 => ((impl_field_div.f k2 a1 t1499 t1500).bind fun t1501 => (if x1489002_2.length < 17592186044416 then (impl_NamedJacobi.l0 k2 a0 a1 a2 (wrap64 (x27_2 + 1)) a1 (x1489001_2 ++ [t1495]) (x1489002_2 ++ [t1501])) else (none))))) else (none))))) = some (r1, r2, r3, r4) := H
         have A22 := Aside0.mk A220
         clear A220
         by_cases c23 : t1493 = 0
         ·rw [if_pos c23] at H
          have c23b0 : (t1493 == 0) = true := beq_iff_eq.mpr c23
          have c23b1 : (t1493 != 0) = false := bne_eq_false_iff_eq.mpr c23
          clear c23
          simp only [Option.some.injEq, Prod.mk.injEq] at H
          obtain ⟨rfl, rfl, rfl, rfl⟩ := H
          go_wp2_with (first | ((with_reducible refine gate_callee (f := 126) rfl ?_); refine goesL_ (some 33) rfl rfl Try.func126 (by kernel_rfl) rfl #[.string a0, .int .i64 x27_2] rfl ZA ?_; (with_reducible refine (impl_namedBeta.calls k2 a0 x27_2 t1489 t1490 true _ A15.out).mono ?_); rintro e w24 ⟨rfl, hb⟩; refine ⟨_, rfl, ?_⟩; have n0_ := Aside0.mk (Kd.R_below (ZR HO_1489001) hb); have n1_ := Aside0.mk (Kd.R_below (ZR HO_1489002) hb); have n2_ := ZL BK1485 hb; have n3_ := ZL BK1488 hb; have n4_ := Aside0.mk (below_step ZB hb); clear HO_1489001; clear HO_1489002; clear BK1485; clear BK1488; clear HB; have HO_1489001 := n0_; have HO_1489002 := n1_; have BK1485 := n2_; have BK1488 := n3_; have HB := n4_; clear n0_ n1_ n2_ n3_ n4_; (try clear hb); (try clear hb2); (try clear hk); (try clear hi)) | ((with_reducible refine gate_callee (f := 97) rfl ?_); refine goesL_ (some 44) rfl rfl Try.func97 (by kernel_rfl) rfl #[.int .i64 a1, .int .i64 t1489] rfl ZA ?_; (with_reducible refine (impl_field_mod.calls a1 t1489 t1492 _ A17.out).mono ?_); rintro e w' ⟨rfl, ⟨nd, rfl⟩⟩; refine ⟨_, rfl, ?_⟩; (try (rw [drewN_self w24]; generalize hq_ : World.drewN w24 _ = w24; have n0_ : Aside0 (Kd.R (Kd.int .i64) 2 w24 w.heap.size (fun k_ => some k_ ≠ (u1489002 : Value).ownBlock) u1489001 x1489001_2) := ⟨by rw [← hq_]; exact (ZR HO_1489001)⟩; have n1_ : Aside0 (Kd.R (Kd.int .i64) 2 w24 w.heap.size (fun k_ => some k_ ≠ (u1489001 : Value).ownBlock) u1489002 x1489002_2) := ⟨by rw [← hq_]; exact (ZR HO_1489002)⟩; have n2_ : Aside0 (w24.heap[gb1485]? = some (.cells #[.int .i64 x1486000_2, .slice none 0 0, .slice none 0 0] 29 (0, 0))) := ⟨by rw [← hq_]; exact (ZK BK1485)⟩; have n3_ : Aside0 (w24.heap[gb1488]? = some (.cells #[.int .i64 a1, u1489001, u1489002] 29 (0, 0))) := ⟨by rw [← hq_]; exact (ZK BK1488)⟩; have n4_ : Aside0 (Below w.heap.size w w24) := ⟨by rw [← hq_]; exact ZB⟩; clear HO_1489001 HO_1489002 BK1485 BK1488 HB hq_; have HO_1489001 := n0_; have HO_1489002 := n1_; have BK1485 := n2_; have BK1488 := n3_; have HB := n4_; clear n0_ n1_ n2_ n3_ n4_)); (try (obtain ⟨hcy1485_0, hcy1485_1, hcy1485_2, hfy1485_0, hfy1485_1, hfy1485_2⟩ := ZD3 BK1485)); (try (obtain ⟨hcy1488_0, hcy1488_1, hcy1488_2, hfy1488_0, hfy1488_1, hfy1488_2⟩ := ZD3 BK1488))) | (go_at_call 97; (with_reducible refine (impl_field_mod.calls a1 t1490 t1493 _ A22.out).mono ?_); rintro e w' ⟨rfl, ⟨nd, rfl⟩⟩; (try (rw [drewN_self w24]; generalize hq_ : World.drewN w24 _ = w24; have n0_ : Aside0 (Kd.R (Kd.int .i64) 2 w24 w.heap.size (fun k_ => some k_ ≠ (u1489002 : Value).ownBlock) u1489001 x1489001_2) := ⟨by rw [← hq_]; exact (ZR HO_1489001)⟩; have n1_ : Aside0 (Kd.R (Kd.int .i64) 2 w24 w.heap.size (fun k_ => some k_ ≠ (u1489001 : Value).ownBlock) u1489002 x1489002_2) := ⟨by rw [← hq_]; exact (ZR HO_1489002)⟩; have n2_ : Aside0 (w24.heap[gb1485]? = some (.cells #[.int .i64 x1486000_2, .slice none 0 0, .slice none 0 0] 29 (0, 0))) := ⟨by rw [← hq_]; exact (ZK BK1485)⟩; have n3_ : Aside0 (w24.heap[gb1488]? = some (.cells #[.int .i64 a1, u1489001, u1489002] 29 (0, 0))) := ⟨by rw [← hq_]; exact (ZK BK1488)⟩; have n4_ : Aside0 (Below w.heap.size w w24) := ⟨by rw [← hq_]; exact ZB⟩; clear HO_1489001 HO_1489002 BK1485 BK1488 HB hq_; have HO_1489001 := n0_; have HO_1489002 := n1_; have BK1485 := n2_; have BK1488 := n3_; have HB := n4_; clear n0_ n1_ n2_ n3_ n4_)); (try (obtain ⟨hcy1485_0, hcy1485_1, hcy1485_2, hfy1485_0, hfy1485_1, hfy1485_2⟩ := ZD3 BK1485)); (try (obtain ⟨hcy1488_0, hcy1488_1, hcy1488_2, hfy1488_0, hfy1488_1, hfy1488_2⟩ := ZD3 BK1488)); have hnb25 := NB1485_1488.out; have hnc25 := NB1488_1485.out; obtain ⟨hcz26_0, hcz26_1, hcz26_2, hfz26_0, hfz26_1, hfz26_2⟩ := ZD3 BK1485))
          refine bodyPost_ret (results_ct rfl _ _ gb1485 29 #[.int .i64 0, .slice none 0 0, .slice none 0 0] (0, 0) _ rfl (by refine ZS ?_; refine blk_put (cs := #[.int .i64 0, .slice none 0 0, .slice none 0 0]) ?_ 2 _ rfl; refine ZS ?_; refine blk_put (cs := #[.int .i64 0, .slice none 0 0, .slice none 0 0]) ?_ 1 _ rfl; refine ZS ?_; refine blk_put (cs := #[.int .i64 x1486000_2, .slice none 0 0, .slice none 0 0]) ?_ 0 _ rfl; refine ZS ?_; exact BK1485.out) Try.underlying29 rfl (by kernel_rfl)) rfl ?_
          exact ⟨_, _, by first | rfl | (simp [errW_none, errW_some] <;> rfl) | (simp [*, errW_none, errW_some] <;> rfl), by first | exact Kd.R_nil _ _ _ _ _ | exact Kd.N_nil _ _ _ _ _ | exact Kd.V_nil _ _ _ _ _ | exact Kd.Q_nil _ _ _ _ _ | exact Kd.S_nil _ _ _ _ _, by first | exact Kd.R_nil _ _ _ _ _ | exact Kd.N_nil _ _ _ _ _ | exact Kd.V_nil _ _ _ _ _ | exact Kd.Q_nil _ _ _ _ _ | exact Kd.S_nil _ _ _ _ _, ZB⟩
         ·rw [if_neg c23] at H
          have c23b0 : (t1493 == 0) = false := beq_eq_false_iff_ne.mpr c23
          have c23b1 : (t1493 != 0) = true := bne_iff_ne.mpr c23
          replace H := Option.bind_eq_some_iff.mp H
          obtain ⟨t1494, A270, H⟩ := H
          replace H : ((impl_field_mod.f a1 t1494).bind fun t1495 => (if x1489001_2.length < 17592186044416 then ((impl_field_mod.f a1 t1489).bind fun t1499 => ((impl_field_mod.f a1 t1490).bind fun t1500 => ((impl_field_div.f k2 a1 t1499 t1500).bind fun t1501 => (if x1489002_2.length < 17592186044416 then (impl_NamedJacobi.l0 k2 a0 a1 a2 (wrap64 (x27_2 + 1)) a1 (x1489001_2 ++ [t1495]) (x1489002_2 ++ [t1501])) else (none))))) else (none))) = some (r1, r2, r3, r4) := H
          have A27 := Aside0.mk A270
          clear A270
          replace H := Option.bind_eq_some_iff.mp H
          obtain ⟨t1495, A280, H⟩ := H
          replace H : (if x1489001_2.length < 17592186044416 then ((impl_field_mod.f a1 t1489).bind fun t1499 => ((impl_field_mod.f a1 t1490).bind fun t1500 => ((impl_field_div.f k2 a1 t1499 t1500).bind fun t1501 => (if x1489002_2.length < 17592186044416 then (impl_NamedJacobi.l0 k2 a0 a1 a2 (wrap64 (x27_2 + 1)) a1 (x1489001_2 ++ [t1495]) (x1489002_2 ++ [t1501])) else (none))))) else (none)) = some (r1, r2, r3, r4) := H
          have A28 := Aside0.mk A280
          clear A280
          by_cases c29 : x1489001_2.length < 17592186044416
          ·rw [if_pos c29] at H
           have LMc29 := Aside0.mk c29
           clear c29
           obtain ⟨y1496, hy1496⟩ : ∃ y_ : List Int, y_ = (x1489001_2 ++ [t1495]) := ⟨_, rfl⟩
           replace H : ((impl_field_mod.f a1 t1489).bind fun t1499 => ((impl_field_mod.f a1 t1490).bind fun t1500 => ((impl_field_div.f k2 a1 t1499 t1500).bind fun t1501 => (if x1489002_2.length < 17592186044416 then (impl_NamedJacobi.l0 k2 a0 a1 a2 (wrap64 (x27_2 + 1)) a1 y1496 (x1489002_2 ++ [t1501])) else (none))))) = some (r1, r2, r3, r4) := by first | (rw [hy1496]; with_reducible exact H) | (have H2_ := (Option.bind_some _ _).symm.trans H; rw [hy1496]; with_reducible exact H2_) | (have H2_ := (Option.bind_some _ _).symm.trans H; with_reducible exact H2_) | with_reducible exact H | (rw [hy1496]; exact H) | exact H
           have Ny1496 := Aside0.mk hy1496
           clear hy1496
           replace H := Option.bind_eq_some_iff.mp H
           obtain ⟨t1499, A300, H⟩ := H
           replace H : ((impl_field_mod.f a1 t1490).bind fun t1500 => ((impl_field_div.f k2 a1 t1499 t1500).bind fun t1501 => (if x1489002_2.length < 17592186044416 then (impl_NamedJacobi.l0 k2 a0 a1 a2 (wrap64 (x27_2 + 1)) a1 y1496 (x1489002_2 ++ [t1501])) else (none)))) = some (r1, r2, r3, r4) := H
           have A30 := Aside0.mk A300
           clear A300
           replace H := Option.bind_eq_some_iff.mp H
           obtain ⟨t1500, A310, H⟩ := H
           replace H : ((impl_field_div.f k2 a1 t1499 t1500).bind fun t1501 => (if x1489002_2.length < 17592186044416 then (impl_NamedJacobi.l0 k2 a0 a1 a2 (wrap64 (x27_2 + 1)) a1 y1496 (x1489002_2 ++ [t1501])) else (none))) = some (r1, r2, r3, r4) := H
           have A31 := Aside0.mk A310
           clear A310
           replace H := Option.bind_eq_some_iff.mp H
           obtain ⟨t1501, A320, H⟩ := H
           replace H : (if x1489002_2.length < 17592186044416 then (impl_NamedJacobi.l0 k2 a0 a1 a2 (wrap64 (x27_2 + 1)) a1 y1496 (x1489002_2 ++ [t1501])) else (none)) = some (r1, r2, r3, r4) := H
           have A32 := Aside0.mk A320
           clear A320
           by_cases c33 : x1489002_2.length < 17592186044416
           ·rw [if_pos c33] at H
            have LMc33 := Aside0.mk c33
            clear c33
            obtain ⟨y1502, hy1502⟩ : ∃ y_ : List Int, y_ = (x1489002_2 ++ [t1501]) := ⟨_, rfl⟩
            replace H : (impl_NamedJacobi.l0 k2 a0 a1 a2 (wrap64 (x27_2 + 1)) a1 y1496 y1502) = some (r1, r2, r3, r4) := by first | (rw [hy1502]; with_reducible exact H) | (have H2_ := (Option.bind_some _ _).symm.trans H; rw [hy1502]; with_reducible exact H2_) | (have H2_ := (Option.bind_some _ _).symm.trans H; with_reducible exact H2_) | with_reducible exact H | (rw [hy1502]; exact H) | exact H
            have Ny1502 := Aside0.mk hy1502
            clear hy1502
            have H' := Aside0.mk H
            clear H
            try go_wp2_with (first | ((with_reducible refine gate_callee (f := 126) rfl ?_); refine goesL_ (some 33) rfl rfl Try.func126 (by kernel_rfl) rfl #[.string a0, .int .i64 x27_2] rfl ZA ?_; (with_reducible refine (impl_namedBeta.calls k2 a0 x27_2 t1489 t1490 true _ A15.out).mono ?_); rintro e w34 ⟨rfl, hb⟩; refine ⟨_, rfl, ?_⟩; have n0_ := Aside0.mk (Kd.R_below (ZR HO_1489001) hb); have n1_ := Aside0.mk (Kd.R_below (ZR HO_1489002) hb); have n2_ := ZL BK1485 hb; have n3_ := ZL BK1488 hb; have n4_ := Aside0.mk (below_step ZB hb); clear HO_1489001; clear HO_1489002; clear BK1485; clear BK1488; clear HB; have HO_1489001 := n0_; have HO_1489002 := n1_; have BK1485 := n2_; have BK1488 := n3_; have HB := n4_; clear n0_ n1_ n2_ n3_ n4_; (try clear hb); (try clear hb2); (try clear hk); (try clear hi)) | ((with_reducible refine gate_callee (f := 97) rfl ?_); refine goesL_ (some 44) rfl rfl Try.func97 (by kernel_rfl) rfl #[.int .i64 a1, .int .i64 t1489] rfl ZA ?_; (with_reducible refine (impl_field_mod.calls a1 t1489 t1492 _ A17.out).mono ?_); rintro e w' ⟨rfl, ⟨nd, rfl⟩⟩; refine ⟨_, rfl, ?_⟩; (try (rw [drewN_self w34]; generalize hq_ : World.drewN w34 _ = w34; have n0_ : Aside0 (Kd.R (Kd.int .i64) 2 w34 w.heap.size (fun k_ => some k_ ≠ (u1489002 : Value).ownBlock) u1489001 x1489001_2) := ⟨by rw [← hq_]; exact (ZR HO_1489001)⟩; have n1_ : Aside0 (Kd.R (Kd.int .i64) 2 w34 w.heap.size (fun k_ => some k_ ≠ (u1489001 : Value).ownBlock) u1489002 x1489002_2) := ⟨by rw [← hq_]; exact (ZR HO_1489002)⟩; have n2_ : Aside0 (w34.heap[gb1485]? = some (.cells #[.int .i64 x1486000_2, .slice none 0 0, .slice none 0 0] 29 (0, 0))) := ⟨by rw [← hq_]; exact (ZK BK1485)⟩; have n3_ : Aside0 (w34.heap[gb1488]? = some (.cells #[.int .i64 a1, u1489001, u1489002] 29 (0, 0))) := ⟨by rw [← hq_]; exact (ZK BK1488)⟩; have n4_ : Aside0 (Below w.heap.size w w34) := ⟨by rw [← hq_]; exact ZB⟩; clear HO_1489001 HO_1489002 BK1485 BK1488 HB hq_; have HO_1489001 := n0_; have HO_1489002 := n1_; have BK1485 := n2_; have BK1488 := n3_; have HB := n4_; clear n0_ n1_ n2_ n3_ n4_)); (try (obtain ⟨hcy1485_0, hcy1485_1, hcy1485_2, hfy1485_0, hfy1485_1, hfy1485_2⟩ := ZD3 BK1485)); (try (obtain ⟨hcy1488_0, hcy1488_1, hcy1488_2, hfy1488_0, hfy1488_1, hfy1488_2⟩ := ZD3 BK1488))) | (go_at_call 97; (with_reducible refine (impl_field_mod.calls a1 t1490 t1493 _ A22.out).mono ?_); rintro e w' ⟨rfl, ⟨nd, rfl⟩⟩; (try (rw [drewN_self w34]; generalize hq_ : World.drewN w34 _ = w34; have n0_ : Aside0 (Kd.R (Kd.int .i64) 2 w34 w.heap.size (fun k_ => some k_ ≠ (u1489002 : Value).ownBlock) u1489001 x1489001_2) := ⟨by rw [← hq_]; exact (ZR HO_1489001)⟩; have n1_ : Aside0 (Kd.R (Kd.int .i64) 2 w34 w.heap.size (fun k_ => some k_ ≠ (u1489001 : Value).ownBlock) u1489002 x1489002_2) := ⟨by rw [← hq_]; exact (ZR HO_1489002)⟩; have n2_ : Aside0 (w34.heap[gb1485]? = some (.cells #[.int .i64 x1486000_2, .slice none 0 0, .slice none 0 0] 29 (0, 0))) := ⟨by rw [← hq_]; exact (ZK BK1485)⟩; have n3_ : Aside0 (w34.heap[gb1488]? = some (.cells #[.int .i64 a1, u1489001, u1489002] 29 (0, 0))) := ⟨by rw [← hq_]; exact (ZK BK1488)⟩; have n4_ : Aside0 (Below w.heap.size w w34) := ⟨by rw [← hq_]; exact ZB⟩; clear HO_1489001 HO_1489002 BK1485 BK1488 HB hq_; have HO_1489001 := n0_; have HO_1489002 := n1_; have BK1485 := n2_; have BK1488 := n3_; have HB := n4_; clear n0_ n1_ n2_ n3_ n4_)); (try (obtain ⟨hcy1485_0, hcy1485_1, hcy1485_2, hfy1485_0, hfy1485_1, hfy1485_2⟩ := ZD3 BK1485)); (try (obtain ⟨hcy1488_0, hcy1488_1, hcy1488_2, hfy1488_0, hfy1488_1, hfy1488_2⟩ := ZD3 BK1488))))
            have n0_ := Aside0.mk (Kd.R_drew HO_1489001.out)
            have n1_ := Aside0.mk (Kd.R_drew HO_1489002.out)
            have n2_ := Aside0.mk (blk_drew BK1485.out)
            have n3_ := Aside0.mk (blk_drew BK1488.out)
            have n4_ := Aside0.mk (below_drew1 HB.out)
            clear HO_1489001
            clear HO_1489002
            clear BK1485
            clear BK1488
            clear HB
            have HO_1489001 := n0_
            have HO_1489002 := n1_
            have BK1485 := n2_
            have BK1488 := n3_
            have HB := n4_
            clear n0_ n1_ n2_ n3_ n4_
            refine start_ (n := 25) (S := fun w' => w'.cell? ⟨gb1488, 0, none⟩ = some (.int .i64 a1) ∧ w'.cell? ⟨gb1488, 1, none⟩ = some (u1489001) ∧ w'.cell? ⟨gb1488, 2, none⟩ = some (u1489002)) (ds := [22, 24]) #[false, false, false, false, false, false, false, false, false, false, false, false, false, false, false, false, false, false, false, false, false, false, false, false, false] (by kernel_rfl) rfl rfl ⟨(blk_cell BK1488.out 0).trans rfl, (blk_cell BK1488.out 1).trans rfl, (blk_cell BK1488.out 2).trans rfl⟩ (fun hHeld => ?_); refine with_tabW impl_NamedJacobi.tab13 impl_NamedJacobi.bits13 (fun HT_ HW_ => ?_)
            generalize w34.drew = w35 at HO_1489001 HO_1489002 BK1485 BK1488 HB hHeld ⊢
            refine Zpt 0 (some 53) (h := ?_)
            refine Zpt 2 (some 55) (h := ?_)
            refine Zpt 3 (some 56) (h := ?_)
            refine Zpt 4 (some 57) (h := ?_)
            refine Zpt 9 (some 62) (h := ?_)
            refine Zpt 11 (some 64) (h := ?_)
            refine Zpt 12 (some 65) (h := ?_)
            refine Zpt 13 (some 66) (h := ?_)
            refine Zpt 15 (some 68) (h := ?_)
            refine Zpt 16 (some 69) (h := ?_)
            refine ZtW3 1 (some 54) hHeld (h := ?_)
            refine ZtW3 10 (some 63) hHeld (h := ?_)
            refine one_ (i := 5) (N := some 58) #[true, true, true, true, true, true, false, false, false, true, true, true, true, true, false, true, true, false, false, false, false, false, false, false, false] rfl rfl (one_of HT_.out (by kernel_rfl)) (by decide) (fun K hK => ?_)
            refine goes_ Try.func127 (by kernel_rfl) rfl #[.string a0, .int .i64 x27_2] (by rfl) rfl rfl ZA ?_
            with_reducible refine (impl_namedAlpha.calls a0 x27_2 t1494 _ A27.out).mono ?_
            rintro e w36 ⟨rfl, hb⟩
            refine ⟨_, rfl, ?_⟩
            have n0_ := Aside0.mk (Kd.R_below (ZR HO_1489001) hb)
            have n1_ := Aside0.mk (Kd.R_below (ZR HO_1489002) hb)
            have n2_ := ZL BK1485 hb
            have n3_ := ZL BK1488 hb
            have n4_ := Aside0.mk (below_step ZB hb)
            clear HO_1489001
            clear HO_1489002
            clear BK1485
            clear BK1488
            clear HB
            have HO_1489001 := n0_
            have HO_1489002 := n1_
            have BK1485 := n2_
            have BK1488 := n3_
            have HB := n4_
            clear n0_ n1_ n2_ n3_ n4_
            (try clear hb)
            (try clear hb2)
            (try clear hk)
            (try clear hi)
            refine hK.out _ _ ⟨(blk_cell BK1488.out 0).trans rfl, (blk_cell BK1488.out 1).trans rfl, (blk_cell BK1488.out 2).trans rfl⟩ (fun hHeld => ?_)
            clear hK K
            refine norm_ (a' := ?_) ?_ ?_
            rotate_left
            ·show Act.put _ (some 58) _ = _
             simp only [Act.put, List.setIfInBounds_toArray, List.set_cons_zero, List.set_cons_succ, i64_w, i32_w]
             rfl
            refine one_ (i := 6) (N := some 59) #[true, true, true, true, true, true, true, false, false, true, true, true, true, true, false, true, true, false, false, false, false, false, false, false, false] rfl rfl (one_of HT_.out (by kernel_rfl)) (by decide) (fun K hK => ?_)
            refine goes_ Try.func97 (by kernel_rfl) rfl #[.int .i64 a1, .int .i64 t1494] (by rfl) rfl rfl ZA ?_
            with_reducible refine (impl_field_mod.calls a1 t1494 t1495 _ A28.out).mono ?_
            rintro e w' ⟨rfl, ⟨nd, rfl⟩⟩
            refine ⟨_, rfl, ?_⟩
            refine hK.out _ _ ⟨(blk_cell BK1488.out 0).trans rfl, (blk_cell BK1488.out 1).trans rfl, (blk_cell BK1488.out 2).trans rfl⟩ (fun hHeld => ?_)
            clear hK K
            refine norm_ (a' := ?_) ?_ ?_
            rotate_left
            ·show Act.put _ (some 59) _ = _
             simp only [Act.put, List.setIfInBounds_toArray, List.set_cons_zero, List.set_cons_succ, i64_w, i32_w]
             rfl
            refine one_ (i := 7) (N := some 60) #[true, true, true, true, true, true, true, true, false, true, true, true, true, true, false, true, true, false, false, false, false, false, false, false, false] rfl rfl (one_of HT_.out (by kernel_rfl)) (by decide) (fun K hK => ?_)
            refine value_ (w1 := ?_) (v := ?_) (by rfl) rfl ?_ ?_
            rotate_left 2
            ·go_simp
             constructor
             ·rfl
             ·rfl
            refine hK.out _ _ ⟨(blk_cell (blk_alloc BK1488.out _) 0).trans rfl, (blk_cell (blk_alloc BK1488.out _) 1).trans rfl, (blk_cell (blk_alloc BK1488.out _) 2).trans rfl⟩ (fun hHeld => ?_)
            clear hK K
            refine norm_ (a' := ?_) ?_ ?_
            rotate_left
            ·show Act.put _ (some 60) _ = _
             simp only [Act.put, List.setIfInBounds_toArray, List.set_cons_zero, List.set_cons_succ, i64_w, i32_w]
             rfl
            refine one_ (i := 8) (N := some 61) #[true, true, true, true, true, true, true, true, true, true, true, true, true, true, false, true, true, false, false, false, false, false, false, false, false] rfl rfl (one_of HT_.out (by kernel_rfl)) (by decide) (fun K hK => ?_)
            refine Kd.R_append_step (Kd.int .i64) (w0 := w) w.heap.size (by rfl) (.tmp 54) (.tmp 60) 22 2 (.int .i64 0) 8 rfl Try.underlying22 info2 rfl (by decide) (by omega) u1489001 x1489001_2 t1495 [.int .i64 t1495] (fun k_ => some k_ ≠ (u1489002 : Value).ownBlock) (fun _ => False) rfl rfl ?aP (fun _ hk => hk.elim) ?aF ?aO ?aB ?aS ?aL ?_
            (case aP => exact rfl)
            (case aB => exact ZB)
            (case aF => exact (fun k_ hk => Kd.fresh' (Kd.R_lt (ZR HO_1489002)) k_ hk))
            (case aO => exact (ZR HO_1489001))
            (case aS => exact (below_size ZB))
            (case aL => have := LMc29.out; omega)
            intro v1497 w37 ho hb hg hat
            rw [← Ny1496.out] at ho
            have n0_ := Aside0.mk (Kd.R_after (ok := (fun _ => True)) (by refine ZQ ?_; exact Kd.R_mono HO_1489002.out (fun _ hk => (And.intro (trivial) (hk)))) hg hat)
            have n1_ := Aside0.mk (blk_grown (ZK BK1485) hg (Kd.R_ne HO_1489001.out BK1485.out (by decide)))
            have n2_ := Aside0.mk (blk_grown (ZK BK1488) hg (Kd.R_ne HO_1489001.out BK1488.out (by decide)))
            have n3_ := Aside0.mk (hb)
            have n4_ := Aside0.mk (ho)
            clear HO_1489002
            clear BK1485
            clear BK1488
            clear HB
            clear HO_1489001
            have HO_1489002 := n0_
            have BK1485 := n1_
            have BK1488 := n2_
            have HB := n3_
            have HO1498 := n4_
            clear n0_ n1_ n2_ n3_ n4_
            clear ho hb hg hat
            refine hK.out _ _ ⟨(blk_cell BK1488.out 0).trans rfl, (blk_cell BK1488.out 1).trans rfl, (blk_cell BK1488.out 2).trans rfl⟩ (fun hHeld => ?_)
            clear hK K
            refine norm_ (a' := ?_) ?_ ?_
            rotate_left
            ·show Act.put _ (some 61) _ = _
             simp only [Act.put, List.setIfInBounds_toArray, List.set_cons_zero, List.set_cons_succ, i64_w, i32_w]
             rfl
            refine Zpt 21 (some 74) (h := ?_)
            refine one_ (i := 14) (N := some 67) #[true, true, true, true, true, true, true, true, true, true, true, true, true, true, true, true, true, false, false, false, false, true, false, false, false] rfl rfl (one_of HT_.out (by kernel_rfl)) (by decide) (fun K hK => ?_)
            refine goes_ Try.func97 (by kernel_rfl) rfl #[.int .i64 a1, .int .i64 t1489] (by rfl) rfl rfl ZA ?_
            with_reducible refine (impl_field_mod.calls a1 t1489 t1499 _ A30.out).mono ?_
            rintro e w' ⟨rfl, ⟨nd, rfl⟩⟩
            refine ⟨_, rfl, ?_⟩
            refine hK.out _ _ ⟨(blk_cell BK1488.out 0).trans rfl, (blk_cell BK1488.out 1).trans rfl, (blk_cell BK1488.out 2).trans rfl⟩ (fun hHeld => ?_)
            clear hK K
            refine norm_ (a' := ?_) ?_ ?_
            rotate_left
            ·show Act.put _ (some 67) _ = _
             simp only [Act.put, List.setIfInBounds_toArray, List.set_cons_zero, List.set_cons_succ, i64_w, i32_w]
             rfl
            refine one_ (i := 17) (N := some 70) #[true, true, true, true, true, true, true, true, true, true, true, true, true, true, true, true, true, true, false, false, false, true, false, false, false] rfl rfl (one_of HT_.out (by kernel_rfl)) (by decide) (fun K hK => ?_)
            refine goes_ Try.func97 (by kernel_rfl) rfl #[.int .i64 a1, .int .i64 t1490] (by rfl) rfl rfl ZA ?_
            with_reducible refine (impl_field_mod.calls a1 t1490 t1500 _ A31.out).mono ?_
            rintro e w' ⟨rfl, ⟨nd, rfl⟩⟩
            refine ⟨_, rfl, ?_⟩
            refine hK.out _ _ ⟨(blk_cell BK1488.out 0).trans rfl, (blk_cell BK1488.out 1).trans rfl, (blk_cell BK1488.out 2).trans rfl⟩ (fun hHeld => ?_)
            clear hK K
            refine norm_ (a' := ?_) ?_ ?_
            rotate_left
            ·show Act.put _ (some 70) _ = _
             simp only [Act.put, List.setIfInBounds_toArray, List.set_cons_zero, List.set_cons_succ, i64_w, i32_w]
             rfl
            refine one_ (i := 18) (N := some 71) #[true, true, true, true, true, true, true, true, true, true, true, true, true, true, true, true, true, true, true, false, false, true, false, false, false] rfl rfl (one_of HT_.out (by kernel_rfl)) (by decide) (fun K hK => ?_)
            refine goes_ Try.func102 (by kernel_rfl) rfl #[.int .i64 a1, .int .i64 t1499, .int .i64 t1500] (by rfl) rfl rfl ZA ?_
            with_reducible refine (impl_field_div.calls k2 a1 t1499 t1500 t1501 _ A32.out).mono ?_
            rintro e w' ⟨rfl, ⟨nd, rfl⟩⟩
            refine ⟨_, rfl, ?_⟩
            refine hK.out _ _ ⟨(blk_cell BK1488.out 0).trans rfl, (blk_cell BK1488.out 1).trans rfl, (blk_cell BK1488.out 2).trans rfl⟩ (fun hHeld => ?_)
            clear hK K
            refine norm_ (a' := ?_) ?_ ?_
            rotate_left
            ·show Act.put _ (some 71) _ = _
             simp only [Act.put, List.setIfInBounds_toArray, List.set_cons_zero, List.set_cons_succ, i64_w, i32_w]
             rfl
            refine one_ (i := 19) (N := some 72) #[true, true, true, true, true, true, true, true, true, true, true, true, true, true, true, true, true, true, true, true, false, true, false, false, false] rfl rfl (one_of HT_.out (by kernel_rfl)) (by decide) (fun K hK => ?_)
            refine value_ (w1 := ?_) (v := ?_) (by rfl) rfl ?_ ?_
            rotate_left 2
            ·go_simp
             constructor
             ·rfl
             ·rfl
            refine hK.out _ _ ⟨(blk_cell (blk_alloc BK1488.out _) 0).trans rfl, (blk_cell (blk_alloc BK1488.out _) 1).trans rfl, (blk_cell (blk_alloc BK1488.out _) 2).trans rfl⟩ (fun hHeld => ?_)
            clear hK K
            refine norm_ (a' := ?_) ?_ ?_
            rotate_left
            ·show Act.put _ (some 72) _ = _
             simp only [Act.put, List.setIfInBounds_toArray, List.set_cons_zero, List.set_cons_succ, i64_w, i32_w]
             rfl
            refine one_ (i := 20) (N := some 73) #[true, true, true, true, true, true, true, true, true, true, true, true, true, true, true, true, true, true, true, true, true, true, false, false, false] rfl rfl (one_of HT_.out (by kernel_rfl)) (by decide) (fun K hK => ?_)
            refine Kd.R_append_step (Kd.int .i64) (w0 := w) w.heap.size (by rfl) (.tmp 63) (.tmp 72) 22 2 (.int .i64 0) 8 rfl Try.underlying22 info2 rfl (by decide) (by omega) u1489002 x1489002_2 t1501 [.int .i64 t1501] (fun k_ => some k_ ≠ (v1497 : Value).ownBlock) (fun _ => False) rfl rfl ?aP (fun _ hk => hk.elim) ?aF ?aO ?aB ?aS ?aL ?_
            (case aP => exact rfl)
            (case aB => exact ZB)
            (case aF => exact (fun k_ hk => Kd.fresh' (Kd.R_lt (ZR HO1498)) k_ hk))
            (case aO => exact (by refine ZQ ?_; exact Kd.R_mono HO_1489002.out (fun _ hk => hk.2)))
            (case aS => exact (below_size ZB))
            (case aL => have := LMc33.out; omega)
            intro v1503 w38 ho hb hg hat
            rw [← Ny1502.out] at ho
            have n0_ := Aside0.mk (blk_grown (ZK BK1485) hg (Kd.R_ne HO_1489002.out BK1485.out (by decide)))
            have n1_ := Aside0.mk (blk_grown (ZK BK1488) hg (Kd.R_ne HO_1489002.out BK1488.out (by decide)))
            have n2_ := Aside0.mk (Kd.R_after (ok := (fun _ => True)) (by refine ZQ ?_; exact Kd.R_mono HO1498.out (fun _ hk => (And.intro (trivial) (hk)))) hg hat)
            have n3_ := Aside0.mk (hb)
            have n4_ := Aside0.mk (ho)
            clear BK1485
            clear BK1488
            clear HO1498
            clear HB
            clear HO_1489002
            have BK1485 := n0_
            have BK1488 := n1_
            have HO1498 := n2_
            have HB := n3_
            have HO1504 := n4_
            clear n0_ n1_ n2_ n3_ n4_
            clear ho hb hg hat
            obtain ⟨Ao39, co39, eo39⟩ := Kd.R_slice HO1498.out
            (first | subst eo39 | (injection eo39 with f1_ f2_ f3_; have f4_ := f1_.symm; have f5_ := f3_.symm; clear f1_ f2_ f3_; subst f4_; subst f5_))
            obtain ⟨Ao41, co41, eo41⟩ := Kd.R_slice HO1504.out
            (first | subst eo41 | (injection eo41 with f1_ f2_ f3_; have f4_ := f1_.symm; have f5_ := f3_.symm; clear f1_ f2_ f3_; subst f4_; subst f5_))
            refine hK.out _ _ ⟨(blk_cell BK1488.out 0).trans rfl, (blk_cell BK1488.out 1).trans rfl, (blk_cell BK1488.out 2).trans rfl⟩ (fun hHeld => ?_)
            clear hK K
            refine norm_ (a' := ?_) ?_ ?_
            rotate_left
            ·show Act.put _ (some 73) _ = _
             simp only [Act.put, List.setIfInBounds_toArray, List.set_cons_zero, List.set_cons_succ, i64_w, i32_w]
             rfl
            refine last_ (i := 22) (N := none) #[true, true, true, true, true, true, true, true, true, true, true, true, true, true, true, true, true, true, true, true, true, true, true, false, false] rfl rfl (one_of HT_.out (by kernel_rfl)) (by decide) (fun K hK => ?_)
            have hs40 : w38.cell? ⟨gb1488, 1, none⟩ = some (u1489001) := (blk_cell BK1488.out 1).trans rfl
            have hfs40 := blk_frozen BK1488.out 1
            have hns40_0 := NB1485_1488.out
            have hms40_0 := NB1488_1485.out
            refine skip_ (w1 := ?_) (by rfl) rfl ?_ ?_
            rotate_left
            ·go_simp
             rfl
            refine hK.out _ _ ?_
            clear hK K
            refine Zpt 23 (some 75) (h := ?_)
            refine last_ (i := 24) (N := none) #[true, true, true, true, true, true, true, true, true, true, true, true, true, true, true, true, true, true, true, true, true, true, true, true, true] rfl rfl (one_of HT_.out (by kernel_rfl)) (by decide) (fun K hK => ?_)
            have hs42 : w38.cell? ⟨gb1488, 2, none⟩ = some (u1489002) := (blk_cell BK1488.out 2).trans rfl
            have hfs42 := blk_frozen BK1488.out 2
            have hns42_0 := NB1485_1488.out
            have hms42_0 := NB1488_1485.out
            refine skip_ (w1 := ?_) (by rfl) rfl ?_ ?_
            rotate_left
            ·go_simp
             rfl
            refine hK.out _ _ ?_
            clear hK K
            refine done_ (done_of HT_.out (by kernel_rfl)) ?_
            try go_wp2
            go_roundg k2
            case measure => have := HJ3.out; have := HK2.out; omega
            case rel => exact ⟨(wrap64 (x27_2 + 1)), (x1486000_2), (y1496), (y1502), (.slice Ao39 y1496.length co39), (.slice Ao41 y1502.length co41), (by first | rfl | (simp; done) | (simp [*]; done)), H', ⟨by have := HJ3.out; have := HK2.out; omega⟩, ⟨by refine ZQ ?_; exact Kd.R_mono (Kd.R_far (p := ⟨gb1488, 2, none⟩) (Kd.R_far (p := ⟨gb1488, 1, none⟩) (Kd.R_types HO1498.out BK1488.out (by decide)) (fun _ hk => hk.2) (.slice Ao39 y1496.length co39)) (fun _ hk => hk.2) (.slice Ao41 y1502.length co41)) (fun _ hk => hk.1.2)⟩, ⟨by refine ZQ ?_; exact Kd.R_mono (Kd.R_far (p := ⟨gb1488, 2, none⟩) (Kd.R_far (p := ⟨gb1488, 1, none⟩) (Kd.R_types HO1504.out BK1488.out (by decide)) (fun _ hk => hk.2) (.slice Ao39 y1496.length co39)) (fun _ hk => hk.2) (.slice Ao41 y1502.length co41)) (fun _ hk => hk.1)⟩, ⟨by refine ZS ?_; refine blk_far ?_ NB1485_1488.out _; refine ZS ?_; refine blk_far ?_ NB1485_1488.out _; refine ZS ?_; exact BK1485.out⟩, ⟨by refine ZS ?_; refine blk_put (cs := #[.int .i64 a1, .slice Ao39 y1496.length co39, u1489002]) ?_ 2 _ rfl; refine ZS ?_; refine blk_put (cs := #[.int .i64 a1, u1489001, u1489002]) ?_ 1 _ rfl; refine ZS ?_; exact BK1488.out⟩, ⟨ZB⟩⟩
           ·rw [if_neg c33] at H
            exact absurd H (by simp)
          ·rw [if_neg c29] at H
           exact absurd H (by simp)
       ·replace c16 := Bool.eq_false_iff.mpr c16
        subst c16
        have H1 : (some (0, ([] : List Int), ([] : List Int), 4)) = some (r1, r2, r3, r4) := by rw [if_neg (show ¬ (false = true) by decide)] at H; exact H
        clear H
        have H := H1
        clear H1
        simp only [Option.some.injEq, Prod.mk.injEq] at H
        obtain ⟨rfl, rfl, rfl, rfl⟩ := H
        go_wp2_with (first | ((with_reducible refine gate_callee (f := 126) rfl ?_); refine goesL_ (some 33) rfl rfl Try.func126 (by kernel_rfl) rfl #[.string a0, .int .i64 x27_2] rfl ZA ?_; (with_reducible refine (impl_namedBeta.calls k2 a0 x27_2 t1489 t1490 false _ A15.out).mono ?_); rintro e w43 ⟨rfl, hb⟩; refine ⟨_, rfl, ?_⟩; have n0_ := Aside0.mk (Kd.R_below (ZR HO_1489001) hb); have n1_ := Aside0.mk (Kd.R_below (ZR HO_1489002) hb); have n2_ := ZL BK1485 hb; have n3_ := ZL BK1488 hb; have n4_ := Aside0.mk (below_step ZB hb); clear HO_1489001; clear HO_1489002; clear BK1485; clear BK1488; clear HB; have HO_1489001 := n0_; have HO_1489002 := n1_; have BK1485 := n2_; have BK1488 := n3_; have HB := n4_; clear n0_ n1_ n2_ n3_ n4_; (try clear hb); (try clear hb2); (try clear hk); (try clear hi); have hnb44 := NB1485_1488.out; have hnc44 := NB1488_1485.out; obtain ⟨hcz45_0, hcz45_1, hcz45_2, hfz45_0, hfz45_1, hfz45_2⟩ := ZD3 BK1485))
        refine bodyPost_ret (results_ct rfl _ _ gb1485 29 #[.int .i64 0, .slice none 0 0, .slice none 0 0] (0, 0) _ rfl (by refine ZS ?_; refine blk_put (cs := #[.int .i64 0, .slice none 0 0, .slice none 0 0]) ?_ 2 _ rfl; refine ZS ?_; refine blk_put (cs := #[.int .i64 0, .slice none 0 0, .slice none 0 0]) ?_ 1 _ rfl; refine ZS ?_; refine blk_put (cs := #[.int .i64 x1486000_2, .slice none 0 0, .slice none 0 0]) ?_ 0 _ rfl; refine ZS ?_; exact BK1485.out) Try.underlying29 rfl (by kernel_rfl)) rfl ?_
        exact ⟨_, _, by first | rfl | (simp [errW_none, errW_some] <;> rfl) | (simp [*, errW_none, errW_some] <;> rfl), by first | exact Kd.R_nil _ _ _ _ _ | exact Kd.N_nil _ _ _ _ _ | exact Kd.V_nil _ _ _ _ _ | exact Kd.Q_nil _ _ _ _ _ | exact Kd.S_nil _ _ _ _ _, by first | exact Kd.R_nil _ _ _ _ _ | exact Kd.N_nil _ _ _ _ _ | exact Kd.V_nil _ _ _ _ _ | exact Kd.Q_nil _ _ _ _ _ | exact Kd.S_nil _ _ _ _ _, ZB⟩
      ·rw [if_neg c14] at H
       have c14b0 : decide (x27_2 < a2) = false := decide_eq_false c14
       clear c14
       simp only [Option.some.injEq, Prod.mk.injEq] at H
       obtain ⟨rfl, rfl, rfl, rfl⟩ := H
       have hnb46 := NB1488_1485.out
       have hnc46 := NB1485_1488.out
       obtain ⟨hcz47_0, hcz47_1, hcz47_2, hfz47_0, hfz47_1, hfz47_2⟩ := ZD3 BK1488
       obtain ⟨hcz48_0, hcz48_1, hcz48_2, hfz48_0, hfz48_1, hfz48_2⟩ := ZD3 BK1485
       obtain ⟨Ao49, co49, eo49⟩ := Kd.R_slice HO_1489001.out
       subst eo49
       obtain ⟨Ao50, co50, eo50⟩ := Kd.R_slice HO_1489002.out
       subst eo50
       go_wp2
       refine bodyPost_ret (results_ct rfl _ _ gb1485 29 #[.int .i64 a1, .slice Ao49 x1489001_2.length co49, .slice Ao50 x1489002_2.length co50] (0, 0) _ rfl (by refine ZS ?_; refine blk_put (cs := #[.int .i64 a1, .slice Ao49 x1489001_2.length co49, .slice none 0 0]) ?_ 2 _ rfl; refine ZS ?_; refine blk_put (cs := #[.int .i64 a1, .slice none 0 0, .slice none 0 0]) ?_ 1 _ rfl; refine ZS ?_; refine blk_put (cs := #[.int .i64 x1486000_2, .slice none 0 0, .slice none 0 0]) ?_ 0 _ rfl; refine ZS ?_; exact BK1485.out) Try.underlying29 rfl (by kernel_rfl)) rfl ?_
       exact ⟨_, _, by first | rfl | (simp [errW_none, errW_some] <;> rfl) | (simp [*, errW_none, errW_some] <;> rfl), by refine ZQ ?_; exact Kd.R_mono (Kd.R_far (p := ⟨gb1485, 2, none⟩) (Kd.R_far (p := ⟨gb1485, 1, none⟩) (Kd.R_far (p := ⟨gb1485, 0, none⟩) (Kd.R_types HO_1489001.out BK1485.out (by decide)) (fun _ hk => hk.2) (.int .i64 a1)) (fun _ hk => hk.2) (.slice Ao49 x1489001_2.length co49)) (fun _ hk => hk.2) (.slice Ao50 x1489002_2.length co50)) (fun _ hk => hk.1), by refine ZQ ?_; exact Kd.R_mono (Kd.R_far (p := ⟨gb1485, 2, none⟩) (Kd.R_far (p := ⟨gb1485, 1, none⟩) (Kd.R_far (p := ⟨gb1485, 0, none⟩) (Kd.R_types HO_1489002.out BK1485.out (by decide)) (fun _ hk => hk.2) (.int .i64 a1)) (fun _ hk => hk.2) (.slice Ao49 x1489001_2.length co49)) (fun _ hk => hk.2) (.slice Ao50 x1489002_2.length co50)) (fun _ hk => hk.1), ZB⟩

/-! ### impl_deskOf: function 91 -/
def impl_deskOf.f (k : Nat) (a0 : Int) : Option (Int × List Int × Int × List Int × List Int × List Int × Int) := (impl_NamedMoments.f k (⟨#[99, 97, 116, 97, 108, 97, 110]⟩ : ByteArray) a0 8).bind fun bt1506 => ((impl_NamedJacobi.f k (⟨#[99, 97, 116, 97, 108, 97, 110]⟩ : ByteArray) a0 4).bind fun bt1512 => (some (bt1506.1, bt1506.2.1, bt1512.1, bt1512.2.1, bt1512.2.2.1, (([0, 1] : List Int)), mx bt1506.2.2 bt1512.2.2.2)))
theorem impl_deskOf.mono : ∀ a0 k, LeO (impl_deskOf.f k a0) (impl_deskOf.f (k + 1) a0) := by
 intro a0 k
 unfold impl_deskOf.f
 repeat' first
   | (with_reducible exact impl_NamedJacobi.mono _ _ _ _)
   | (with_reducible exact impl_NamedMoments.mono _ _ _ _)
   | (with_reducible exact LeO.refl _)
   | (with_reducible exact LeO.none _)
   | (with_reducible refine LeO.ite ?_ ?_)
   | (with_reducible refine LeO.bind ?_ (fun _ => ?_))
   | exact impl_NamedJacobi.mono _ _ _ _
   | exact impl_NamedMoments.mono _ _ _ _
   | exact LeO.none _
   | refine LeO.ite ?_ ?_
   | refine LeO.bind ?_ (fun _ => ?_)
set_option maxHeartbeats 8000000 in
set_option maxRecDepth 100000 in
theorem impl_deskOf.calls (k : Nat) (a0 : Int) (r1 : Int) (r2 : List Int) (r3 : Int) (r4 : List Int) (r5 : List Int) (r6 : List Int) (r7 : Int) (w : World) (h : impl_deskOf.f k a0 = some (r1, r2, r3, r4, r5, r6, r7)) :
  Calls Try.prog 91 #[.int .i64 a0] w fun e w' => ∃ v1_ v3_ v4_ v5_ : Value, e = .returned (.tuple #[.agg #[.int .i64 r1, v1_, .int .i64 r3, v3_, v4_, v5_], .int .i64 r7]) ∧ Kd.R (Kd.int .i64) 2 w' w.heap.size (fun k_ => some k_ ≠ (v3_ : Value).ownBlock ∧ some k_ ≠ (v4_ : Value).ownBlock ∧ some k_ ≠ (v5_ : Value).ownBlock) v1_ r2 ∧ Kd.R (Kd.int .i64) 2 w' w.heap.size (fun k_ => some k_ ≠ (v1_ : Value).ownBlock ∧ some k_ ≠ (v4_ : Value).ownBlock ∧ some k_ ≠ (v5_ : Value).ownBlock) v3_ r4 ∧ Kd.R (Kd.int .i64) 2 w' w.heap.size (fun k_ => some k_ ≠ (v1_ : Value).ownBlock ∧ some k_ ≠ (v3_ : Value).ownBlock ∧ some k_ ≠ (v5_ : Value).ownBlock) v4_ r5 ∧ Kd.R (Kd.int .i64) 2 w' w.heap.size (fun k_ => some k_ ≠ (v1_ : Value).ownBlock ∧ some k_ ≠ (v3_ : Value).ownBlock ∧ some k_ ≠ (v4_ : Value).ownBlock) v5_ r6 ∧ Below w.heap.size w w' := by
 have hu61 := Try.underlying61
 have hu59 := Try.underlying59
 have hu29 := Try.underlying29
 have HB := Aside0.mk (Below.refl w.heap.size w)
 have H : ((impl_NamedMoments.f k (⟨#[99, 97, 116, 97, 108, 97, 110]⟩ : ByteArray) a0 8).bind fun bt1506 => ((impl_NamedJacobi.f k (⟨#[99, 97, 116, 97, 108, 97, 110]⟩ : ByteArray) a0 4).bind fun bt1512 => (some (bt1506.1, bt1506.2.1, bt1512.1, bt1512.2.1, bt1512.2.2.1, (([0, 1] : List Int)), mx bt1506.2.2 bt1512.2.2.2)))) = some (r1, r2, r3, r4, r5, r6, r7) := h
 clear h
 replace H := Option.bind_eq_some_iff.mp H
 obtain ⟨⟨t1506, t1507, t1510⟩, A20, H⟩ := H
 replace H : ((impl_NamedJacobi.f k (⟨#[99, 97, 116, 97, 108, 97, 110]⟩ : ByteArray) a0 4).bind fun bt1512 => (some (t1506, t1507, bt1512.1, bt1512.2.1, bt1512.2.2.1, (([0, 1] : List Int)), mx t1510 bt1512.2.2.2))) = some (r1, r2, r3, r4, r5, r6, r7) := H
 have A2 := Aside0.mk A20
 clear A20
 replace H := Option.bind_eq_some_iff.mp H
 obtain ⟨⟨t1512, t1513, t1516, t1519⟩, A30, H⟩ := H
 replace H : (some (t1506, t1507, t1512, t1513, t1516, (([0, 1] : List Int)), mx t1510 t1519)) = some (r1, r2, r3, r4, r5, r6, r7) := H
 have A3 := Aside0.mk A30
 clear A30
 obtain ⟨y1521, hy1521⟩ : ∃ y_ : List Int, y_ = (([0, 1] : List Int)) := ⟨_, rfl⟩
 replace H : (some (t1506, t1507, t1512, t1513, t1516, y1521, mx t1510 t1519)) = some (r1, r2, r3, r4, r5, r6, r7) := by first | (rw [hy1521]; with_reducible exact H) | (have H2_ := (Option.bind_some _ _).symm.trans H; rw [hy1521]; with_reducible exact H2_) | (have H2_ := (Option.bind_some _ _).symm.trans H; with_reducible exact H2_) | with_reducible exact H | (rw [hy1521]; exact H) | exact H
 have Ny1521 := Aside0.mk hy1521
 clear hy1521
 obtain ⟨ji4, hji4⟩ : ∃ j_ : Int, (mx t1510 t1519) = j_ := ⟨_, rfl⟩
 replace H : (some (t1506, t1507, t1512, t1513, t1516, y1521, ji4)) = some (r1, r2, r3, r4, r5, r6, r7) := by first | (rw [hji4] at H; exact H) | (simp only [hji4] at H ⊢; exact H)
 (try rw [hji4] at A2)
 (try rw [hji4] at A3)
 have hji4_ : (if t1510 < t1519 then t1519 else t1510) = ji4 := hji4
 simp only [Option.some.injEq, Prod.mk.injEq] at H
 obtain ⟨rfl, rfl, rfl, rfl, rfl, rfl, rfl⟩ := H
 go_enter Try.func91, Try.ntmps91
 go_wp2_with (first | ((with_reducible refine gate_dst (N := 2) rfl ?_); refine box_event ?hg (N := 2) ?hd (cs := #[.int .i64 0, .slice none 0 0, .int .i64 0, .slice none 0 0, .slice none 0 0, .slice none 0 0]) (t := 61) ?hr ?_; (case hd => rfl); (case hg => rfl); (case hr => first | (go_simp; done) | (go_simp; rfl)); intro gb1505 hg w5 hbox hb; have n0_ := Aside0.mk (below_step ZB hb); have n1_ := Aside0.mk (hbox); have n2_ := Aside0.mk ((ZG hg : w.heap.size ≤ gb1505)); have n3_ := Aside0.mk ((ZG hg : w.heap.size ≤ gb1505)); clear HB; have HB := n0_; have BK1505 := n1_; have GW1505 := n2_; have GE1505 := n3_; clear n0_ n1_ n2_ n3_; clear hb hbox hg) | ((with_reducible refine gate_callee (f := 116) rfl ?_); refine goesL_ (some 10) rfl rfl Try.func116 (by kernel_rfl) rfl #[.string (⟨#[99, 97, 116, 97, 108, 97, 110]⟩ : ByteArray), .int .i64 a0, .int .i64 8] rfl ZA ?_; (with_reducible refine (impl_NamedMoments.calls k (⟨#[99, 97, 116, 97, 108, 97, 110]⟩ : ByteArray) a0 8 t1506 t1507 t1510 _ A2.out).mono ?_); rintro e w6 ⟨v1508, rfl, ho0, hb⟩; refine ⟨_, rfl, ?_⟩; have n0_ := Aside0.mk (Kd.R_lower ho0 (below_size ZB)); have n1_ := ZL BK1505 hb; have n2_ := Aside0.mk (below_step ZB hb); clear BK1505; clear HB; have HO1509 := n0_; have BK1505 := n1_; have HB := n2_; clear n0_ n1_ n2_; (try clear hb); (try clear hb2); (try clear hk); (try clear hi); (try clear ho0)) | ((with_reducible refine gate_dst (N := 4) rfl ?_); refine box_event ?hg (N := 4) ?hd (cs := #[.int .i64 0, .slice none 0 0]) (t := 59) ?hr ?_; (case hd => rfl); (case hg => rfl); (case hr => first | (go_simp; done) | (go_simp; rfl)); intro gb1511 hg w7 hbox hb; have n0_ := Aside0.mk (Kd.R_below (ZR HO1509) hb); have n1_ := ZL BK1505 hb; have n2_ := Aside0.mk (below_step ZB hb); have n3_ := Aside0.mk (hbox); have n4_ := Aside0.mk ((ZG hg : w.heap.size ≤ gb1511)); have n5_ := Aside0.mk ((ZG hg : w.heap.size ≤ gb1511)); have n6_ := Aside0.mk ((ZN hg BK1505 : gb1505 ≠ gb1511)); have n7_ := Aside0.mk ((ZM hg BK1505 : gb1511 ≠ gb1505)); clear HO1509; clear BK1505; clear HB; have HO1509 := n0_; have BK1505 := n1_; have HB := n2_; have BK1511 := n3_; have GW1511 := n4_; have GE1511 := n5_; have NB1505_1511 := n6_; have NB1511_1505 := n7_; clear n0_ n1_ n2_ n3_ n4_ n5_ n6_ n7_; clear hb hbox hg; have hnb8 := NB1511_1505.out; have hnc8 := NB1505_1511.out; obtain ⟨hcz9_0, hcz9_1, hfz9_0, hfz9_1⟩ := ZD2 BK1511; obtain ⟨Ao10, co10, eo10⟩ := Kd.R_slice HO1509.out; subst eo10) | ((with_reducible refine gate_callee (f := 117) rfl ?_); refine goesL_ (some 15) rfl rfl Try.func117 (by kernel_rfl) rfl #[.string (⟨#[99, 97, 116, 97, 108, 97, 110]⟩ : ByteArray), .int .i64 a0, .int .i64 4] rfl ZA ?_; (with_reducible refine (impl_NamedJacobi.calls k (⟨#[99, 97, 116, 97, 108, 97, 110]⟩ : ByteArray) a0 4 t1512 t1513 t1516 t1519 _ A3.out).mono ?_); rintro e w11 ⟨v1514, v1517, rfl, ho0, ho1, hb⟩; refine ⟨_, rfl, ?_⟩; have n0_ := Aside0.mk (Kd.R_mono (Kd.R_told (Kd.R_told (Kd.R_old (ZQ (ZF2 HO1509 BK1511 (.int .i64 t1506) (.slice Ao10 t1507.length co10))) hb) (Kd.R_base ho0)) (Kd.R_base ho1)) (fun _ h_ => h_.1)); have n1_ := Aside0.mk (Kd.R_lower (Kd.R_new' ho0 (Kd.R_lt (ZQ (ZF2 HO1509 BK1511 (.int .i64 t1506) (.slice Ao10 t1507.length co10))))) (below_size ZB)); have n2_ := Aside0.mk (Kd.R_lower (Kd.R_new' ho1 (Kd.R_lt (ZQ (ZF2 HO1509 BK1511 (.int .i64 t1506) (.slice Ao10 t1507.length co10))))) (below_size ZB)); have n3_ := Aside0.mk (blk_below (g := gb1505) (o := .cells #[.int .i64 0, .slice none 0 0, .int .i64 0, .slice none 0 0, .slice none 0 0, .slice none 0 0] 61 (0, 0)) (by refine ZS ?_; refine blk_far ?_ NB1505_1511.out _; refine ZS ?_; refine blk_far ?_ NB1505_1511.out _; refine ZS ?_; exact BK1505.out) hb); have n4_ := Aside0.mk (blk_below (g := gb1511) (o := .cells #[.int .i64 t1506, .slice Ao10 t1507.length co10] 59 (0, 0)) (by refine ZS ?_; refine blk_put (cs := #[.int .i64 t1506, .slice none 0 0]) ?_ 1 _ rfl; refine ZS ?_; refine blk_put (cs := #[.int .i64 0, .slice none 0 0]) ?_ 0 _ rfl; refine ZS ?_; exact BK1511.out) hb); have n5_ := Aside0.mk (below_step ZB hb); clear HO1509; clear BK1505; clear BK1511; clear HB; have HO1509 := n0_; have HO1515 := n1_; have HO1518 := n2_; have BK1505 := n3_; have BK1511 := n4_; have HB := n5_; clear n0_ n1_ n2_ n3_ n4_ n5_; (try clear hb); (try clear hb2); (try clear hk); (try clear hi); (try clear ho0); (try clear ho1)) | ((with_reducible refine gate_dst (N := 6) rfl ?_); refine box_event ?hg (N := 6) ?hd (cs := #[.int .i64 0, .slice none 0 0, .slice none 0 0]) (t := 29) ?hr ?_; (case hd => rfl); (case hg => rfl); (case hr => first | (go_simp; done) | (go_simp; rfl)); intro gb1520 hg w12 hbox hb; have n0_ := Aside0.mk (Kd.R_below (ZR HO1509) hb); have n1_ := Aside0.mk (Kd.R_below (ZR HO1515) hb); have n2_ := Aside0.mk (Kd.R_below (ZR HO1518) hb); have n3_ := ZL BK1505 hb; have n4_ := ZL BK1511 hb; have n5_ := Aside0.mk (below_step ZB hb); have n6_ := Aside0.mk (hbox); have n7_ := Aside0.mk ((ZG hg : w.heap.size ≤ gb1520)); have n8_ := Aside0.mk ((ZG hg : w.heap.size ≤ gb1520)); have n9_ := Aside0.mk ((ZN hg BK1505 : gb1505 ≠ gb1520)); have n10_ := Aside0.mk ((ZM hg BK1505 : gb1520 ≠ gb1505)); have n11_ := Aside0.mk ((ZN hg BK1511 : gb1511 ≠ gb1520)); have n12_ := Aside0.mk ((ZM hg BK1511 : gb1520 ≠ gb1511)); clear HO1509; clear HO1515; clear HO1518; clear BK1505; clear BK1511; clear HB; have HO1509 := n0_; have HO1515 := n1_; have HO1518 := n2_; have BK1505 := n3_; have BK1511 := n4_; have HB := n5_; have BK1520 := n6_; have GW1520 := n7_; have GE1520 := n8_; have NB1505_1520 := n9_; have NB1520_1505 := n10_; have NB1511_1520 := n11_; have NB1520_1511 := n12_; clear n0_ n1_ n2_ n3_ n4_ n5_ n6_ n7_ n8_ n9_ n10_ n11_ n12_; clear hb hbox hg; have hnb13 := NB1520_1505.out; have hnc13 := NB1505_1520.out; have hnb14 := NB1520_1511.out; have hnc14 := NB1511_1520.out; obtain ⟨hcz15_0, hcz15_1, hcz15_2, hfz15_0, hfz15_1, hfz15_2⟩ := ZD3 BK1520; obtain ⟨Ao16, co16, eo16⟩ := Kd.R_slice HO1515.out; subst eo16; obtain ⟨Ao17, co17, eo17⟩ := Kd.R_slice HO1518.out; subst eo17; obtain ⟨hcz18_0, hcz18_1, hfz18_0, hfz18_1⟩ := ZD2 BK1511) | ((with_reducible refine gate_dst (N := 20) rfl ?_); refine Kd.R_lit (Kd.int .i64) _ 2 ?hg (N := 20) ?hd (xs := ([0, 1] : List Int)) (inner := [.int .i64 0, .int .i64 1]) (ok := fun _ => True) (okp := fun _ => True) ?hr ?hp (fun _ hk => hk) trivial (Below.refl _ _) (Nat.le_refl _) (by simp) ?_; (case hd => rfl); (case hg => rfl); (case hr => first | (go_simp; done) | (go_simp; rfl)); (case hp => exact (Reps.one (show Kd.M (Kd.int .i64) _ _ _ 0 [.int .i64 0] from rfl) (Reps.one (show Kd.M (Kd.int .i64) _ _ _ 1 [.int .i64 1] from rfl) (Reps.none _ _)))); intro v1522 w19 ho20 hb hg_ hnew_; clear hg_ hnew_; (first | rw [← Ny1521.out] at ho20 | (simp only [Int.reduceToNat] at ho20; rw [← Ny1521.out] at ho20)); have n0_ := Aside0.mk (Kd.R_elder' (ZQ (ZF3 HO1509 BK1520 (.int .i64 t1512) (.slice Ao16 t1513.length co16) (.slice Ao17 t1516.length co17))) (Kd.R_base ho20) hb); have n1_ := Aside0.mk (Kd.R_elder' (ZQ (ZF3 HO1515 BK1520 (.int .i64 t1512) (.slice Ao16 t1513.length co16) (.slice Ao17 t1516.length co17))) (Kd.R_base ho20) hb); have n2_ := Aside0.mk (Kd.R_elder' (ZQ (ZF3 HO1518 BK1520 (.int .i64 t1512) (.slice Ao16 t1513.length co16) (.slice Ao17 t1516.length co17))) (Kd.R_base ho20) hb); have n3_ := Aside0.mk (Kd.R_lower (Kd.R_new' (Kd.R_new' (Kd.R_new' ho20 (Kd.R_lt (ZQ (ZF3 HO1509 BK1520 (.int .i64 t1512) (.slice Ao16 t1513.length co16) (.slice Ao17 t1516.length co17))))) (Kd.R_lt (ZQ (ZF3 HO1515 BK1520 (.int .i64 t1512) (.slice Ao16 t1513.length co16) (.slice Ao17 t1516.length co17))))) (Kd.R_lt (ZQ (ZF3 HO1518 BK1520 (.int .i64 t1512) (.slice Ao16 t1513.length co16) (.slice Ao17 t1516.length co17))))) (below_size ZB)); have n4_ := Aside0.mk (blk_below (g := gb1505) (o := .cells #[.int .i64 0, .slice none 0 0, .int .i64 0, .slice none 0 0, .slice none 0 0, .slice none 0 0] 61 (0, 0)) (by refine ZS ?_; refine blk_far ?_ NB1505_1520.out _; refine ZS ?_; refine blk_far ?_ NB1505_1520.out _; refine ZS ?_; refine blk_far ?_ NB1505_1520.out _; refine ZS ?_; exact BK1505.out) hb); have n5_ := Aside0.mk (blk_below (g := gb1511) (o := .cells #[.int .i64 t1506, .slice Ao10 t1507.length co10] 59 (0, 0)) (by refine ZS ?_; refine blk_far ?_ NB1511_1520.out _; refine ZS ?_; refine blk_far ?_ NB1511_1520.out _; refine ZS ?_; refine blk_far ?_ NB1511_1520.out _; refine ZS ?_; exact BK1511.out) hb); have n6_ := Aside0.mk (blk_below (g := gb1520) (o := .cells #[.int .i64 t1512, .slice Ao16 t1513.length co16, .slice Ao17 t1516.length co17] 29 (0, 0)) (by refine ZS ?_; refine blk_put (cs := #[.int .i64 t1512, .slice Ao16 t1513.length co16, .slice none 0 0]) ?_ 2 _ rfl; refine ZS ?_; refine blk_put (cs := #[.int .i64 t1512, .slice none 0 0, .slice none 0 0]) ?_ 1 _ rfl; refine ZS ?_; refine blk_put (cs := #[.int .i64 0, .slice none 0 0, .slice none 0 0]) ?_ 0 _ rfl; refine ZS ?_; exact BK1520.out) hb); have n7_ := Aside0.mk (below_step ZB hb); clear HO1509; clear HO1515; clear HO1518; clear BK1505; clear BK1511; clear BK1520; clear HB; have HO1509 := n0_; have HO1515 := n1_; have HO1518 := n2_; have HO1523 := n3_; have BK1505 := n4_; have BK1511 := n5_; have BK1520 := n6_; have HB := n7_; clear n0_ n1_ n2_ n3_ n4_ n5_ n6_ n7_; clear hb ho20; obtain ⟨Ao21, co21, eo21⟩ := Kd.R_slice HO1523.out; subst eo21; obtain ⟨hcz22_0, hcz22_1, hcz22_2, hcz22_3, hcz22_4, hcz22_5, hfz22_0, hfz22_1, hfz22_2, hfz22_3, hfz22_4, hfz22_5⟩ := ZD6 BK1505))
 refine bodyPost_ret (results_ct rfl _ _ gb1505 61 #[.int .i64 t1506, .slice Ao10 t1507.length co10, .int .i64 t1512, .slice Ao16 t1513.length co16, .slice Ao17 t1516.length co17, .slice Ao21 y1521.length co21] (0, 0) _ rfl (by refine ZS ?_; refine blk_put (cs := #[.int .i64 t1506, .slice Ao10 t1507.length co10, .int .i64 t1512, .slice Ao16 t1513.length co16, .slice Ao17 t1516.length co17, .slice none 0 0]) ?_ 5 _ rfl; refine ZS ?_; refine blk_put (cs := #[.int .i64 t1506, .slice Ao10 t1507.length co10, .int .i64 t1512, .slice Ao16 t1513.length co16, .slice none 0 0, .slice none 0 0]) ?_ 4 _ rfl; refine ZS ?_; refine blk_put (cs := #[.int .i64 t1506, .slice Ao10 t1507.length co10, .int .i64 t1512, .slice none 0 0, .slice none 0 0, .slice none 0 0]) ?_ 3 _ rfl; refine ZS ?_; refine blk_put (cs := #[.int .i64 t1506, .slice Ao10 t1507.length co10, .int .i64 0, .slice none 0 0, .slice none 0 0, .slice none 0 0]) ?_ 2 _ rfl; refine ZS ?_; refine blk_put (cs := #[.int .i64 t1506, .slice none 0 0, .int .i64 0, .slice none 0 0, .slice none 0 0, .slice none 0 0]) ?_ 1 _ rfl; refine ZS ?_; refine blk_put (cs := #[.int .i64 0, .slice none 0 0, .int .i64 0, .slice none 0 0, .slice none 0 0, .slice none 0 0]) ?_ 0 _ rfl; refine ZS ?_; exact BK1505.out) Try.underlying61 rfl (by kernel_rfl)) rfl ?_
 exact ⟨_, _, _, _, by first | rfl | (simp [errW_none, errW_some] <;> rfl) | (simp only [← hji4]; first | rfl | (simp [errW_none, errW_some] <;> rfl)) | (simp [*, errW_none, errW_some] <;> rfl), by refine ZQ ?_; exact Kd.R_mono (Kd.R_far (p := ⟨gb1505, 5, none⟩) (Kd.R_far (p := ⟨gb1505, 4, none⟩) (Kd.R_far (p := ⟨gb1505, 3, none⟩) (Kd.R_far (p := ⟨gb1505, 2, none⟩) (Kd.R_far (p := ⟨gb1505, 1, none⟩) (Kd.R_far (p := ⟨gb1505, 0, none⟩) (Kd.R_types HO1509.out BK1505.out (by decide)) (fun _ hk => hk.2) (.int .i64 t1506)) (fun _ hk => hk.2) (.slice Ao10 t1507.length co10)) (fun _ hk => hk.2) (.int .i64 t1512)) (fun _ hk => hk.2) (.slice Ao16 t1513.length co16)) (fun _ hk => hk.2) (.slice Ao17 t1516.length co17)) (fun _ hk => hk.2) (.slice Ao21 y1521.length co21)) (fun _ hk => (And.intro (hk.1.1.1.2) ((And.intro (hk.1.1.2) (hk.1.2))))), by refine ZQ ?_; exact Kd.R_mono (Kd.R_far (p := ⟨gb1505, 5, none⟩) (Kd.R_far (p := ⟨gb1505, 4, none⟩) (Kd.R_far (p := ⟨gb1505, 3, none⟩) (Kd.R_far (p := ⟨gb1505, 2, none⟩) (Kd.R_far (p := ⟨gb1505, 1, none⟩) (Kd.R_far (p := ⟨gb1505, 0, none⟩) (Kd.R_types HO1515.out BK1505.out (by decide)) (fun _ hk => hk.2) (.int .i64 t1506)) (fun _ hk => hk.2) (.slice Ao10 t1507.length co10)) (fun _ hk => hk.2) (.int .i64 t1512)) (fun _ hk => hk.2) (.slice Ao16 t1513.length co16)) (fun _ hk => hk.2) (.slice Ao17 t1516.length co17)) (fun _ hk => hk.2) (.slice Ao21 y1521.length co21)) (fun _ hk => (And.intro (hk.1.1.2) ((And.intro (hk.1.1.1) (hk.1.2))))), by refine ZQ ?_; exact Kd.R_mono (Kd.R_far (p := ⟨gb1505, 5, none⟩) (Kd.R_far (p := ⟨gb1505, 4, none⟩) (Kd.R_far (p := ⟨gb1505, 3, none⟩) (Kd.R_far (p := ⟨gb1505, 2, none⟩) (Kd.R_far (p := ⟨gb1505, 1, none⟩) (Kd.R_far (p := ⟨gb1505, 0, none⟩) (Kd.R_types HO1518.out BK1505.out (by decide)) (fun _ hk => hk.2) (.int .i64 t1506)) (fun _ hk => hk.2) (.slice Ao10 t1507.length co10)) (fun _ hk => hk.2) (.int .i64 t1512)) (fun _ hk => hk.2) (.slice Ao16 t1513.length co16)) (fun _ hk => hk.2) (.slice Ao17 t1516.length co17)) (fun _ hk => hk.2) (.slice Ao21 y1521.length co21)) (fun _ hk => (And.intro (hk.1.1.2) ((And.intro (hk.1.1.1) (hk.1.2))))), by refine ZQ ?_; exact Kd.R_mono (Kd.R_far (p := ⟨gb1505, 5, none⟩) (Kd.R_far (p := ⟨gb1505, 4, none⟩) (Kd.R_far (p := ⟨gb1505, 3, none⟩) (Kd.R_far (p := ⟨gb1505, 2, none⟩) (Kd.R_far (p := ⟨gb1505, 1, none⟩) (Kd.R_far (p := ⟨gb1505, 0, none⟩) (Kd.R_types HO1523.out BK1505.out (by decide)) (fun _ hk => hk.2) (.int .i64 t1506)) (fun _ hk => hk.2) (.slice Ao10 t1507.length co10)) (fun _ hk => hk.2) (.int .i64 t1512)) (fun _ hk => hk.2) (.slice Ao16 t1513.length co16)) (fun _ hk => hk.2) (.slice Ao17 t1516.length co17)) (fun _ hk => hk.2) (.slice Ao21 y1521.length co21)) (fun _ hk => (And.intro (hk.1.1.1.2) ((And.intro (hk.1.1.2) (hk.1.2))))), ZB⟩

/-! ### impl_NewDesk: function 50 -/
def impl_NewDesk.f (k : Nat)  : Option (Int × List Int × Int × List Int × List Int × List Int) := (impl_deskOf.f k 101).bind fun bt1525 => (some (bt1525.1, bt1525.2.1, bt1525.2.2.1, bt1525.2.2.2.1, bt1525.2.2.2.2.1, bt1525.2.2.2.2.2.1))
theorem impl_NewDesk.mono : ∀ k, LeO (impl_NewDesk.f k ) (impl_NewDesk.f (k + 1) ) := by
 intro  k
 unfold impl_NewDesk.f
 repeat' first
   | (with_reducible exact impl_deskOf.mono _ _)
   | (with_reducible exact LeO.refl _)
   | (with_reducible exact LeO.none _)
   | (with_reducible refine LeO.ite ?_ ?_)
   | (with_reducible refine LeO.bind ?_ (fun _ => ?_))
   | exact impl_deskOf.mono _ _
   | exact LeO.none _
   | refine LeO.ite ?_ ?_
   | refine LeO.bind ?_ (fun _ => ?_)
set_option maxHeartbeats 8000000 in
set_option maxRecDepth 100000 in
theorem impl_NewDesk.calls (k : Nat)  (r1 : Int) (r2 : List Int) (r3 : Int) (r4 : List Int) (r5 : List Int) (r6 : List Int) (w : World) (h : impl_NewDesk.f k  = some (r1, r2, r3, r4, r5, r6)) :
  Calls Try.prog 50 #[] w fun e w' => ∃ v1_ v3_ v4_ v5_ : Value, e = .returned (.agg #[.int .i64 r1, v1_, .int .i64 r3, v3_, v4_, v5_]) ∧ Kd.R (Kd.int .i64) 2 w' w.heap.size (fun k_ => some k_ ≠ (v3_ : Value).ownBlock ∧ some k_ ≠ (v4_ : Value).ownBlock ∧ some k_ ≠ (v5_ : Value).ownBlock) v1_ r2 ∧ Kd.R (Kd.int .i64) 2 w' w.heap.size (fun k_ => some k_ ≠ (v1_ : Value).ownBlock ∧ some k_ ≠ (v4_ : Value).ownBlock ∧ some k_ ≠ (v5_ : Value).ownBlock) v3_ r4 ∧ Kd.R (Kd.int .i64) 2 w' w.heap.size (fun k_ => some k_ ≠ (v1_ : Value).ownBlock ∧ some k_ ≠ (v3_ : Value).ownBlock ∧ some k_ ≠ (v5_ : Value).ownBlock) v4_ r5 ∧ Kd.R (Kd.int .i64) 2 w' w.heap.size (fun k_ => some k_ ≠ (v1_ : Value).ownBlock ∧ some k_ ≠ (v3_ : Value).ownBlock ∧ some k_ ≠ (v4_ : Value).ownBlock) v5_ r6 ∧ Below w.heap.size w w' := by
 have hu61 := Try.underlying61
 have HB := Aside0.mk (Below.refl w.heap.size w)
 have H : ((impl_deskOf.f k 101).bind fun bt1525 => (some (bt1525.1, bt1525.2.1, bt1525.2.2.1, bt1525.2.2.2.1, bt1525.2.2.2.2.1, bt1525.2.2.2.2.2.1))) = some (r1, r2, r3, r4, r5, r6) := h
 clear h
 replace H := Option.bind_eq_some_iff.mp H
 obtain ⟨⟨t1525, t1526, t1529, t1530, t1533, t1536, t1539⟩, A10, H⟩ := H
 replace H : (some (t1525, t1526, t1529, t1530, t1533, t1536)) = some (r1, r2, r3, r4, r5, r6) := H
 have A1 := Aside0.mk A10
 clear A10
 simp only [Option.some.injEq, Prod.mk.injEq] at H
 obtain ⟨rfl, rfl, rfl, rfl, rfl, rfl⟩ := H
 go_enter Try.func50, Try.ntmps50
 go_wp2_with (first | ((with_reducible refine gate_dst (N := 0) rfl ?_); refine box_event ?hg (N := 0) ?hd (cs := #[.int .i64 0, .slice none 0 0, .int .i64 0, .slice none 0 0, .slice none 0 0, .slice none 0 0]) (t := 61) ?hr ?_; (case hd => rfl); (case hg => rfl); (case hr => first | (go_simp; done) | (go_simp; rfl)); intro gb1524 hg w2 hbox hb; have n0_ := Aside0.mk (below_step ZB hb); have n1_ := Aside0.mk (hbox); have n2_ := Aside0.mk ((ZG hg : w.heap.size ≤ gb1524)); have n3_ := Aside0.mk ((ZG hg : w.heap.size ≤ gb1524)); clear HB; have HB := n0_; have BK1524 := n1_; have GW1524 := n2_; have GE1524 := n3_; clear n0_ n1_ n2_ n3_; clear hb hbox hg) | ((with_reducible refine gate_callee (f := 91) rfl ?_); refine goesL_ (some 4) rfl rfl Try.func91 (by kernel_rfl) rfl #[.int .i64 101] rfl ZA ?_; (with_reducible refine (impl_deskOf.calls k 101 t1525 t1526 t1529 t1530 t1533 t1536 t1539 _ A1.out).mono ?_); rintro e w3 ⟨v1527, v1531, v1534, v1537, rfl, ho0, ho1, ho2, ho3, hb⟩; refine ⟨_, rfl, ?_⟩; have n0_ := Aside0.mk (Kd.R_lower ho0 (below_size ZB)); have n1_ := Aside0.mk (Kd.R_lower ho1 (below_size ZB)); have n2_ := Aside0.mk (Kd.R_lower ho2 (below_size ZB)); have n3_ := Aside0.mk (Kd.R_lower ho3 (below_size ZB)); have n4_ := ZL BK1524 hb; have n5_ := Aside0.mk (below_step ZB hb); clear BK1524; clear HB; have HO1528 := n0_; have HO1532 := n1_; have HO1535 := n2_; have HO1538 := n3_; have BK1524 := n4_; have HB := n5_; clear n0_ n1_ n2_ n3_ n4_ n5_; (try clear hb); (try clear hb2); (try clear hk); (try clear hi); (try clear ho0); (try clear ho1); (try clear ho2); (try clear ho3)) | ((with_reducible refine gate_dst (N := 1) rfl ?_); refine box_event ?hg (N := 1) ?hd (cs := #[.int .i64 0, .slice none 0 0, .int .i64 0, .slice none 0 0, .slice none 0 0, .slice none 0 0]) (t := 61) ?hr ?_; (case hd => rfl); (case hg => rfl); (case hr => first | (go_simp; done) | (go_simp; rfl)); intro gb1540 hg w4 hbox hb; have n0_ := Aside0.mk (Kd.R_below (ZR HO1528) hb); have n1_ := Aside0.mk (Kd.R_below (ZR HO1532) hb); have n2_ := Aside0.mk (Kd.R_below (ZR HO1535) hb); have n3_ := Aside0.mk (Kd.R_below (ZR HO1538) hb); have n4_ := ZL BK1524 hb; have n5_ := Aside0.mk (below_step ZB hb); have n6_ := Aside0.mk (hbox); have n7_ := Aside0.mk ((ZG hg : w.heap.size ≤ gb1540)); have n8_ := Aside0.mk ((ZG hg : w.heap.size ≤ gb1540)); have n9_ := Aside0.mk ((ZN hg BK1524 : gb1524 ≠ gb1540)); have n10_ := Aside0.mk ((ZM hg BK1524 : gb1540 ≠ gb1524)); clear HO1528; clear HO1532; clear HO1535; clear HO1538; clear BK1524; clear HB; have HO1528 := n0_; have HO1532 := n1_; have HO1535 := n2_; have HO1538 := n3_; have BK1524 := n4_; have HB := n5_; have BK1540 := n6_; have GW1540 := n7_; have GE1540 := n8_; have NB1524_1540 := n9_; have NB1540_1524 := n10_; clear n0_ n1_ n2_ n3_ n4_ n5_ n6_ n7_ n8_ n9_ n10_; clear hb hbox hg; have hnb5 := NB1540_1524.out; have hnc5 := NB1524_1540.out; obtain ⟨hcz6_0, hcz6_1, hcz6_2, hcz6_3, hcz6_4, hcz6_5, hfz6_0, hfz6_1, hfz6_2, hfz6_3, hfz6_4, hfz6_5⟩ := ZD6 BK1540; obtain ⟨Ao7, co7, eo7⟩ := Kd.R_slice HO1528.out; subst eo7; obtain ⟨Ao8, co8, eo8⟩ := Kd.R_slice HO1532.out; subst eo8; obtain ⟨Ao9, co9, eo9⟩ := Kd.R_slice HO1535.out; subst eo9; obtain ⟨Ao10, co10, eo10⟩ := Kd.R_slice HO1538.out; subst eo10; obtain ⟨hcz11_0, hcz11_1, hcz11_2, hcz11_3, hcz11_4, hcz11_5, hfz11_0, hfz11_1, hfz11_2, hfz11_3, hfz11_4, hfz11_5⟩ := ZD6 BK1524))
 refine bodyPost_ret (results_cell_row rfl _ _ gb1524 61 #[.int .i64 t1525, .slice Ao7 t1526.length co7, .int .i64 t1529, .slice Ao8 t1530.length co8, .slice Ao9 t1533.length co9, .slice Ao10 t1536.length co10] (0, 0) _ rfl (by refine ZS ?_; refine blk_put (cs := #[.int .i64 t1525, .slice Ao7 t1526.length co7, .int .i64 t1529, .slice Ao8 t1530.length co8, .slice Ao9 t1533.length co9, .slice none 0 0]) ?_ 5 _ rfl; refine ZS ?_; refine blk_put (cs := #[.int .i64 t1525, .slice Ao7 t1526.length co7, .int .i64 t1529, .slice Ao8 t1530.length co8, .slice none 0 0, .slice none 0 0]) ?_ 4 _ rfl; refine ZS ?_; refine blk_put (cs := #[.int .i64 t1525, .slice Ao7 t1526.length co7, .int .i64 t1529, .slice none 0 0, .slice none 0 0, .slice none 0 0]) ?_ 3 _ rfl; refine ZS ?_; refine blk_put (cs := #[.int .i64 t1525, .slice Ao7 t1526.length co7, .int .i64 0, .slice none 0 0, .slice none 0 0, .slice none 0 0]) ?_ 2 _ rfl; refine ZS ?_; refine blk_put (cs := #[.int .i64 t1525, .slice none 0 0, .int .i64 0, .slice none 0 0, .slice none 0 0, .slice none 0 0]) ?_ 1 _ rfl; refine ZS ?_; refine blk_put (cs := #[.int .i64 0, .slice none 0 0, .int .i64 0, .slice none 0 0, .slice none 0 0, .slice none 0 0]) ?_ 0 _ rfl; refine ZS ?_; refine blk_far ?_ NB1524_1540.out _; refine ZS ?_; refine blk_far ?_ NB1524_1540.out _; refine ZS ?_; refine blk_far ?_ NB1524_1540.out _; refine ZS ?_; refine blk_far ?_ NB1524_1540.out _; refine ZS ?_; refine blk_far ?_ NB1524_1540.out _; refine ZS ?_; refine blk_far ?_ NB1524_1540.out _; refine ZS ?_; exact BK1524.out) Try.underlying61 rfl (by kernel_rfl)) rfl ?_
 exact ⟨_, _, _, _, by first | rfl | (simp [errW_none, errW_some] <;> rfl) | (simp [*, errW_none, errW_some] <;> rfl), by refine ZQ ?_; exact Kd.R_mono (Kd.R_far (p := ⟨gb1524, 5, none⟩) (Kd.R_far (p := ⟨gb1524, 4, none⟩) (Kd.R_far (p := ⟨gb1524, 3, none⟩) (Kd.R_far (p := ⟨gb1524, 2, none⟩) (Kd.R_far (p := ⟨gb1524, 1, none⟩) (Kd.R_far (p := ⟨gb1524, 0, none⟩) (Kd.R_far (p := ⟨gb1540, 5, none⟩) (Kd.R_far (p := ⟨gb1540, 4, none⟩) (Kd.R_far (p := ⟨gb1540, 3, none⟩) (Kd.R_far (p := ⟨gb1540, 2, none⟩) (Kd.R_far (p := ⟨gb1540, 1, none⟩) (Kd.R_far (p := ⟨gb1540, 0, none⟩) (Kd.R_types (Kd.R_types HO1528.out BK1540.out (by decide)) BK1524.out (by decide)) (fun _ hk => hk.1.2) (.int .i64 t1525)) (fun _ hk => hk.1.2) (.slice Ao7 t1526.length co7)) (fun _ hk => hk.1.2) (.int .i64 t1529)) (fun _ hk => hk.1.2) (.slice Ao8 t1530.length co8)) (fun _ hk => hk.1.2) (.slice Ao9 t1533.length co9)) (fun _ hk => hk.1.2) (.slice Ao10 t1536.length co10)) (fun _ hk => hk.2) (.int .i64 t1525)) (fun _ hk => hk.2) (.slice Ao7 t1526.length co7)) (fun _ hk => hk.2) (.int .i64 t1529)) (fun _ hk => hk.2) (.slice Ao8 t1530.length co8)) (fun _ hk => hk.2) (.slice Ao9 t1533.length co9)) (fun _ hk => hk.2) (.slice Ao10 t1536.length co10)) (fun _ hk => (And.intro (hk.1.1.1) ((And.intro (hk.1.1.2.1) (hk.1.1.2.2))))), by refine ZQ ?_; exact Kd.R_mono (Kd.R_far (p := ⟨gb1524, 5, none⟩) (Kd.R_far (p := ⟨gb1524, 4, none⟩) (Kd.R_far (p := ⟨gb1524, 3, none⟩) (Kd.R_far (p := ⟨gb1524, 2, none⟩) (Kd.R_far (p := ⟨gb1524, 1, none⟩) (Kd.R_far (p := ⟨gb1524, 0, none⟩) (Kd.R_far (p := ⟨gb1540, 5, none⟩) (Kd.R_far (p := ⟨gb1540, 4, none⟩) (Kd.R_far (p := ⟨gb1540, 3, none⟩) (Kd.R_far (p := ⟨gb1540, 2, none⟩) (Kd.R_far (p := ⟨gb1540, 1, none⟩) (Kd.R_far (p := ⟨gb1540, 0, none⟩) (Kd.R_types (Kd.R_types HO1532.out BK1540.out (by decide)) BK1524.out (by decide)) (fun _ hk => hk.1.2) (.int .i64 t1525)) (fun _ hk => hk.1.2) (.slice Ao7 t1526.length co7)) (fun _ hk => hk.1.2) (.int .i64 t1529)) (fun _ hk => hk.1.2) (.slice Ao8 t1530.length co8)) (fun _ hk => hk.1.2) (.slice Ao9 t1533.length co9)) (fun _ hk => hk.1.2) (.slice Ao10 t1536.length co10)) (fun _ hk => hk.2) (.int .i64 t1525)) (fun _ hk => hk.2) (.slice Ao7 t1526.length co7)) (fun _ hk => hk.2) (.int .i64 t1529)) (fun _ hk => hk.2) (.slice Ao8 t1530.length co8)) (fun _ hk => hk.2) (.slice Ao9 t1533.length co9)) (fun _ hk => hk.2) (.slice Ao10 t1536.length co10)) (fun _ hk => (And.intro (hk.1.1.1) ((And.intro (hk.1.1.2.1) (hk.1.1.2.2))))), by refine ZQ ?_; exact Kd.R_mono (Kd.R_far (p := ⟨gb1524, 5, none⟩) (Kd.R_far (p := ⟨gb1524, 4, none⟩) (Kd.R_far (p := ⟨gb1524, 3, none⟩) (Kd.R_far (p := ⟨gb1524, 2, none⟩) (Kd.R_far (p := ⟨gb1524, 1, none⟩) (Kd.R_far (p := ⟨gb1524, 0, none⟩) (Kd.R_far (p := ⟨gb1540, 5, none⟩) (Kd.R_far (p := ⟨gb1540, 4, none⟩) (Kd.R_far (p := ⟨gb1540, 3, none⟩) (Kd.R_far (p := ⟨gb1540, 2, none⟩) (Kd.R_far (p := ⟨gb1540, 1, none⟩) (Kd.R_far (p := ⟨gb1540, 0, none⟩) (Kd.R_types (Kd.R_types HO1535.out BK1540.out (by decide)) BK1524.out (by decide)) (fun _ hk => hk.1.2) (.int .i64 t1525)) (fun _ hk => hk.1.2) (.slice Ao7 t1526.length co7)) (fun _ hk => hk.1.2) (.int .i64 t1529)) (fun _ hk => hk.1.2) (.slice Ao8 t1530.length co8)) (fun _ hk => hk.1.2) (.slice Ao9 t1533.length co9)) (fun _ hk => hk.1.2) (.slice Ao10 t1536.length co10)) (fun _ hk => hk.2) (.int .i64 t1525)) (fun _ hk => hk.2) (.slice Ao7 t1526.length co7)) (fun _ hk => hk.2) (.int .i64 t1529)) (fun _ hk => hk.2) (.slice Ao8 t1530.length co8)) (fun _ hk => hk.2) (.slice Ao9 t1533.length co9)) (fun _ hk => hk.2) (.slice Ao10 t1536.length co10)) (fun _ hk => (And.intro (hk.1.1.1) ((And.intro (hk.1.1.2.1) (hk.1.1.2.2))))), by refine ZQ ?_; exact Kd.R_mono (Kd.R_far (p := ⟨gb1524, 5, none⟩) (Kd.R_far (p := ⟨gb1524, 4, none⟩) (Kd.R_far (p := ⟨gb1524, 3, none⟩) (Kd.R_far (p := ⟨gb1524, 2, none⟩) (Kd.R_far (p := ⟨gb1524, 1, none⟩) (Kd.R_far (p := ⟨gb1524, 0, none⟩) (Kd.R_far (p := ⟨gb1540, 5, none⟩) (Kd.R_far (p := ⟨gb1540, 4, none⟩) (Kd.R_far (p := ⟨gb1540, 3, none⟩) (Kd.R_far (p := ⟨gb1540, 2, none⟩) (Kd.R_far (p := ⟨gb1540, 1, none⟩) (Kd.R_far (p := ⟨gb1540, 0, none⟩) (Kd.R_types (Kd.R_types HO1538.out BK1540.out (by decide)) BK1524.out (by decide)) (fun _ hk => hk.1.2) (.int .i64 t1525)) (fun _ hk => hk.1.2) (.slice Ao7 t1526.length co7)) (fun _ hk => hk.1.2) (.int .i64 t1529)) (fun _ hk => hk.1.2) (.slice Ao8 t1530.length co8)) (fun _ hk => hk.1.2) (.slice Ao9 t1533.length co9)) (fun _ hk => hk.1.2) (.slice Ao10 t1536.length co10)) (fun _ hk => hk.2) (.int .i64 t1525)) (fun _ hk => hk.2) (.slice Ao7 t1526.length co7)) (fun _ hk => hk.2) (.int .i64 t1529)) (fun _ hk => hk.2) (.slice Ao8 t1530.length co8)) (fun _ hk => hk.2) (.slice Ao9 t1533.length co9)) (fun _ hk => hk.2) (.slice Ao10 t1536.length co10)) (fun _ hk => (And.intro (hk.1.1.1) ((And.intro (hk.1.1.2.1) (hk.1.1.2.2))))), ZB⟩

/-! ### laws_eqMoments: function 92 -/
def laws_eqMoments.f (k : Nat) (a0_0 : Int) (l0_1 : List Int) (a1_0 : Int) (l1_1 : List Int) : Option (Bool) := if a0_0 = a1_0 then ((laws_eqInt64S.f k l0_1 l1_1).bind fun t1543 => (if t1543 = true then (some true) else (some false))) else (some false)
theorem laws_eqMoments.mono : ∀ a0 a1 a2 a3 k, LeO (laws_eqMoments.f k a0 a1 a2 a3) (laws_eqMoments.f (k + 1) a0 a1 a2 a3) := by
 intro a0 a1 a2 a3 k
 unfold laws_eqMoments.f
 repeat' first
   | (with_reducible exact laws_eqInt64S.mono _ _ _)
   | (with_reducible exact LeO.refl _)
   | (with_reducible exact LeO.none _)
   | (with_reducible refine LeO.ite ?_ ?_)
   | (with_reducible refine LeO.bind ?_ (fun _ => ?_))
   | exact laws_eqInt64S.mono _ _ _
   | exact LeO.none _
   | refine LeO.ite ?_ ?_
   | refine LeO.bind ?_ (fun _ => ?_)
set_option maxHeartbeats 8000000 in
set_option maxRecDepth 100000 in
theorem laws_eqMoments.calls (k : Nat) (a0_0 : Int) (A0_1 : Option Addr) (c0_1 : Nat) (l0_1 : List Int) (a1_0 : Int) (A1_1 : Option Addr) (c1_1 : Nat) (l1_1 : List Int) (r : Bool) (w : World) (hr0_1 : Kd.C (Kd.int .i64) w A0_1 l0_1.length l0_1) (hc0_1 : l0_1.length ≤ c0_1) (hr1_1 : Kd.C (Kd.int .i64) w A1_1 l1_1.length l1_1) (hc1_1 : l1_1.length ≤ c1_1) (h : laws_eqMoments.f k a0_0 l0_1 a1_0 l1_1 = some r) :
  Calls Try.prog 92 #[.agg #[.int .i64 a0_0, .slice A0_1 l0_1.length c0_1], .agg #[.int .i64 a1_0, .slice A1_1 l1_1.length c1_1]] w fun e w' => e = .returned (.bool r) ∧ Below w.heap.size w w' := by
 have hu59 := Try.underlying59
 have HR0_1 := Aside0.mk hr0_1
 have HC0_1 := Aside0.mk hc0_1
 clear hr0_1 hc0_1
 have HR1_1 := Aside0.mk hr1_1
 have HC1_1 := Aside0.mk hc1_1
 clear hr1_1 hc1_1
 have HB := Aside0.mk (Below.refl w.heap.size w)
 have H : (if a0_0 = a1_0 then ((laws_eqInt64S.f k l0_1 l1_1).bind fun t1543 => (if t1543 = true then (some true) else (some false))) else (some false)) = some r := h
 clear h
 by_cases c3 : a0_0 = a1_0
 ·rw [if_pos c3] at H
  have c3b0 : (a0_0 == a1_0) = true := beq_iff_eq.mpr c3
  have c3b1 : (a0_0 != a1_0) = false := bne_eq_false_iff_eq.mpr c3
  clear c3
  replace H := Option.bind_eq_some_iff.mp H
  obtain ⟨t1543, A40, H⟩ := H
  replace H : (if t1543 = true then (some true) else (some false)) = some r := H
  have A4 := Aside0.mk A40
  clear A40
  by_cases c5 : t1543 = true
  ·subst c5
   have H1 : (some true) = some r := by rw [if_pos rfl] at H; exact H
   clear H
   have H := H1
   clear H1
   obtain rfl := Option.some.inj H
   go_enter Try.func92, Try.ntmps92
   go_wp2_with (first | ((with_reducible refine gate_dst (N := 2) rfl ?_); refine box_event ?hg (N := 2) ?hd (cs := #[.int .i64 a0_0, .slice A0_1 l0_1.length c0_1]) (t := 59) ?hr ?_; (case hd => rfl); (case hg => rfl); (case hr => first | (go_simp; done) | (go_simp; rfl)); intro gb1541 hg w6 hbox hb; have n0_ := Aside0.mk (below_step ZB hb); have n1_ := Aside0.mk (hbox); have n2_ := Aside0.mk ((ZG hg : w.heap.size ≤ gb1541)); have n3_ := Aside0.mk ((ZG hg : w.heap.size ≤ gb1541)); clear HB; have HB := n0_; have BK1541 := n1_; have GW1541 := n2_; have GE1541 := n3_; clear n0_ n1_ n2_ n3_; clear hb hbox hg) | ((with_reducible refine gate_dst (N := 3) rfl ?_); refine box_event ?hg (N := 3) ?hd (cs := #[.int .i64 a1_0, .slice A1_1 l1_1.length c1_1]) (t := 59) ?hr ?_; (case hd => rfl); (case hg => rfl); (case hr => first | (go_simp; done) | (go_simp; rfl)); intro gb1542 hg w7 hbox hb; have n0_ := ZL BK1541 hb; have n1_ := Aside0.mk (below_step ZB hb); have n2_ := Aside0.mk (hbox); have n3_ := Aside0.mk ((ZG hg : w.heap.size ≤ gb1542)); have n4_ := Aside0.mk ((ZG hg : w.heap.size ≤ gb1542)); have n5_ := Aside0.mk ((ZN hg BK1541 : gb1541 ≠ gb1542)); have n6_ := Aside0.mk ((ZM hg BK1541 : gb1542 ≠ gb1541)); clear BK1541; clear HB; have BK1541 := n0_; have HB := n1_; have BK1542 := n2_; have GW1542 := n3_; have GE1542 := n4_; have NB1541_1542 := n5_; have NB1542_1541 := n6_; clear n0_ n1_ n2_ n3_ n4_ n5_ n6_; clear hb hbox hg; have hnb8 := NB1541_1542.out; have hnc8 := NB1542_1541.out; obtain ⟨hcz9_0, hcz9_1, hfz9_0, hfz9_1⟩ := ZD2 BK1541; obtain ⟨hcz10_0, hcz10_1, hfz10_0, hfz10_1⟩ := ZD2 BK1542) | ((with_reducible refine gate_callee (f := 29) rfl ?_); refine goesL_ (some 14) rfl rfl Try.func29 (by kernel_rfl) rfl #[.slice A0_1 l0_1.length c0_1, .slice A1_1 l1_1.length c1_1] rfl ZA ?_; (with_reducible refine (laws_eqInt64S.calls k _ _ l0_1 _ _ l1_1 true _ ?side1 ?side2 ?side3 ?side4 A4.out).mono ?_); (case side1 => exact ZC HR0_1); (case side2 => exact HC0_1.out); (case side3 => exact ZC HR1_1); (case side4 => exact HC1_1.out); rintro e w' ⟨rfl, ⟨nd, rfl⟩⟩; refine ⟨_, rfl, ?_⟩))
   go_ret
   exact ⟨by first | rfl | (simp [errW_none, errW_some] <;> rfl) | (simp [*, errW_none, errW_some] <;> rfl), ZB⟩
  ·replace c5 := Bool.eq_false_iff.mpr c5
   subst c5
   have H1 : (some false) = some r := by rw [if_neg (show ¬ (false = true) by decide)] at H; exact H
   clear H
   have H := H1
   clear H1
   obtain rfl := Option.some.inj H
   go_enter Try.func92, Try.ntmps92
   go_wp2_with (first | ((with_reducible refine gate_dst (N := 2) rfl ?_); refine box_event ?hg (N := 2) ?hd (cs := #[.int .i64 a0_0, .slice A0_1 l0_1.length c0_1]) (t := 59) ?hr ?_; (case hd => rfl); (case hg => rfl); (case hr => first | (go_simp; done) | (go_simp; rfl)); intro gb1541 hg w11 hbox hb; have n0_ := Aside0.mk (below_step ZB hb); have n1_ := Aside0.mk (hbox); have n2_ := Aside0.mk ((ZG hg : w.heap.size ≤ gb1541)); have n3_ := Aside0.mk ((ZG hg : w.heap.size ≤ gb1541)); clear HB; have HB := n0_; have BK1541 := n1_; have GW1541 := n2_; have GE1541 := n3_; clear n0_ n1_ n2_ n3_; clear hb hbox hg) | ((with_reducible refine gate_dst (N := 3) rfl ?_); refine box_event ?hg (N := 3) ?hd (cs := #[.int .i64 a1_0, .slice A1_1 l1_1.length c1_1]) (t := 59) ?hr ?_; (case hd => rfl); (case hg => rfl); (case hr => first | (go_simp; done) | (go_simp; rfl)); intro gb1542 hg w12 hbox hb; have n0_ := ZL BK1541 hb; have n1_ := Aside0.mk (below_step ZB hb); have n2_ := Aside0.mk (hbox); have n3_ := Aside0.mk ((ZG hg : w.heap.size ≤ gb1542)); have n4_ := Aside0.mk ((ZG hg : w.heap.size ≤ gb1542)); have n5_ := Aside0.mk ((ZN hg BK1541 : gb1541 ≠ gb1542)); have n6_ := Aside0.mk ((ZM hg BK1541 : gb1542 ≠ gb1541)); clear BK1541; clear HB; have BK1541 := n0_; have HB := n1_; have BK1542 := n2_; have GW1542 := n3_; have GE1542 := n4_; have NB1541_1542 := n5_; have NB1542_1541 := n6_; clear n0_ n1_ n2_ n3_ n4_ n5_ n6_; clear hb hbox hg; have hnb13 := NB1541_1542.out; have hnc13 := NB1542_1541.out; obtain ⟨hcz14_0, hcz14_1, hfz14_0, hfz14_1⟩ := ZD2 BK1541; obtain ⟨hcz15_0, hcz15_1, hfz15_0, hfz15_1⟩ := ZD2 BK1542) | ((with_reducible refine gate_callee (f := 29) rfl ?_); refine goesL_ (some 14) rfl rfl Try.func29 (by kernel_rfl) rfl #[.slice A0_1 l0_1.length c0_1, .slice A1_1 l1_1.length c1_1] rfl ZA ?_; (with_reducible refine (laws_eqInt64S.calls k _ _ l0_1 _ _ l1_1 false _ ?side1 ?side2 ?side3 ?side4 A4.out).mono ?_); (case side1 => exact ZC HR0_1); (case side2 => exact HC0_1.out); (case side3 => exact ZC HR1_1); (case side4 => exact HC1_1.out); rintro e w' ⟨rfl, ⟨nd, rfl⟩⟩; refine ⟨_, rfl, ?_⟩))
   go_ret
   exact ⟨by first | rfl | (simp [errW_none, errW_some] <;> rfl) | (simp [*, errW_none, errW_some] <;> rfl), ZB⟩
 ·rw [if_neg c3] at H
  have c3b0 : (a0_0 == a1_0) = false := beq_eq_false_iff_ne.mpr c3
  have c3b1 : (a0_0 != a1_0) = true := bne_iff_ne.mpr c3
  obtain rfl := Option.some.inj H
  go_enter Try.func92, Try.ntmps92
  go_wp2_with (first | ((with_reducible refine gate_dst (N := 2) rfl ?_); refine box_event ?hg (N := 2) ?hd (cs := #[.int .i64 a0_0, .slice A0_1 l0_1.length c0_1]) (t := 59) ?hr ?_; (case hd => rfl); (case hg => rfl); (case hr => first | (go_simp; done) | (go_simp; rfl)); intro gb1541 hg w16 hbox hb; have n0_ := Aside0.mk (below_step ZB hb); have n1_ := Aside0.mk (hbox); have n2_ := Aside0.mk ((ZG hg : w.heap.size ≤ gb1541)); have n3_ := Aside0.mk ((ZG hg : w.heap.size ≤ gb1541)); clear HB; have HB := n0_; have BK1541 := n1_; have GW1541 := n2_; have GE1541 := n3_; clear n0_ n1_ n2_ n3_; clear hb hbox hg) | ((with_reducible refine gate_dst (N := 3) rfl ?_); refine box_event ?hg (N := 3) ?hd (cs := #[.int .i64 a1_0, .slice A1_1 l1_1.length c1_1]) (t := 59) ?hr ?_; (case hd => rfl); (case hg => rfl); (case hr => first | (go_simp; done) | (go_simp; rfl)); intro gb1542 hg w17 hbox hb; have n0_ := ZL BK1541 hb; have n1_ := Aside0.mk (below_step ZB hb); have n2_ := Aside0.mk (hbox); have n3_ := Aside0.mk ((ZG hg : w.heap.size ≤ gb1542)); have n4_ := Aside0.mk ((ZG hg : w.heap.size ≤ gb1542)); have n5_ := Aside0.mk ((ZN hg BK1541 : gb1541 ≠ gb1542)); have n6_ := Aside0.mk ((ZM hg BK1541 : gb1542 ≠ gb1541)); clear BK1541; clear HB; have BK1541 := n0_; have HB := n1_; have BK1542 := n2_; have GW1542 := n3_; have GE1542 := n4_; have NB1541_1542 := n5_; have NB1542_1541 := n6_; clear n0_ n1_ n2_ n3_ n4_ n5_ n6_; clear hb hbox hg; have hnb18 := NB1541_1542.out; have hnc18 := NB1542_1541.out; obtain ⟨hcz19_0, hcz19_1, hfz19_0, hfz19_1⟩ := ZD2 BK1541; obtain ⟨hcz20_0, hcz20_1, hfz20_0, hfz20_1⟩ := ZD2 BK1542))
  go_ret
  exact ⟨by first | rfl | (simp [errW_none, errW_some] <;> rfl) | (simp [*, errW_none, errW_some] <;> rfl), ZB⟩

end Go.Proofs.Ytaclapojgdekpaa.X
