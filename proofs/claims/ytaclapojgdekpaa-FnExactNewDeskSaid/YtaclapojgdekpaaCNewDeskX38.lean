/- Contracts of functions that the law reaches, printed by a program of this session; Lean checks them. -/
import Derived.Test.YtaclapojgdekpaaCNewDeskX0
import Derived.Test.YtaclapojgdekpaaCNewDeskX37
import Derived.Test.YtaclapojgdekpaaCNewDeskX8
import Derived.Test.YtaclapojgdekpaaCNewDeskXZ
namespace Go.Proofs.Ytaclapojgdekpaa.X
open Go.RowKit Go.Proofs.YtaclapojgdekpaaW.PrintWords Go.Proofs.YtaclapojgdekpaaW.PrintLast Go.Proofs.YtaclapojgdekpaaW.PrintMore
attribute [local go_sem] max2_int min2_int max_two min_two max_three min_three max_four min_four   -- for this text's walks alone
set_option linter.unusedVariables false
set_option linter.unusedSimpArgs false

/-! ### spec_l02Back: function 137 -/
def spec_l02Back.l0 : Nat → List Int → List Int → Int → Option (List Int)
 | 0, _, _, _ => none
 | k + 1, x0, x3, x4 => if x4 ≥ 0 then (if 0 ≤ x4 then (if x4 < (x0.length : Int) then (if x3.length < 17592186044416 then (spec_l02Back.l0 k x0 (x3 ++ [rd x0 x4]) (wrap64 (x4 - 1))) else (none)) else (none)) else (none)) else (some x3)
def spec_l02Back.f (k : Nat) (l0 : List Int) : Option (List Int) := spec_l02Back.l0 k l0 (([] : List Int)) (wrap64 ((l0.length : Int) - 1))
theorem spec_l02Back.mono_l : ∀ k, (∀ y0 y1 y2, LeO (spec_l02Back.l0 k y0 y1 y2) (spec_l02Back.l0 (k + 1) y0 y1 y2))
 | 0 => fun _ _ _ r h => by simp [spec_l02Back.l0] at h
 | k + 1 => by
  have ih0 := spec_l02Back.mono_l k
  ·intro y0 y1 y2
   unfold spec_l02Back.l0
   repeat' first
   | (with_reducible exact ih0 _ _ _)
   | (with_reducible exact LeO.refl _)
   | (with_reducible exact LeO.none _)
   | (with_reducible refine LeO.ite ?_ ?_)
   | (with_reducible refine LeO.bind ?_ (fun _ => ?_))
   | exact ih0 _ _ _
   | exact LeO.none _
   | refine LeO.ite ?_ ?_
   | refine LeO.bind ?_ (fun _ => ?_)
theorem spec_l02Back.mono : ∀ a0 k, LeO (spec_l02Back.f k a0) (spec_l02Back.f (k + 1) a0) := by
 intro a0 k
 have ih0 := spec_l02Back.mono_l k
 unfold spec_l02Back.f
 repeat' first
   | (with_reducible exact ih0 _ _ _)
   | (with_reducible exact LeO.refl _)
   | (with_reducible exact LeO.none _)
   | (with_reducible refine LeO.ite ?_ ?_)
   | (with_reducible refine LeO.bind ?_ (fun _ => ?_))
   | exact ih0 _ _ _
   | exact LeO.none _
   | refine LeO.ite ?_ ?_
   | refine LeO.bind ?_ (fun _ => ?_)
set_option maxHeartbeats 8000000 in
set_option maxRecDepth 100000 in
theorem spec_l02Back.calls (k : Nat) (A0 : Option Addr) (c0 : Nat) (l0 : List Int) (r : List Int) (w : World) (hr0 : Kd.C (Kd.int .i64) w A0 l0.length l0) (hc0 : l0.length ≤ c0) (h : spec_l02Back.f k l0 = some r) :
  Calls Try.prog 137 #[.slice A0 l0.length c0] w fun e w' => ∃ v0_ : Value, e = .returned (v0_) ∧ Kd.R (Kd.int .i64) 2 w' w.heap.size (fun _ => True) v0_ r ∧ Below w.heap.size w w' := by
 have HR0 := Aside0.mk hr0
 have HC0 := Aside0.mk hc0
 clear hr0 hc0
 have HB := Aside0.mk (Below.refl w.heap.size w)
 have H : (spec_l02Back.l0 k l0 (([] : List Int)) (wrap64 ((l0.length : Int) - 1))) = some r := h
 clear h
 obtain ⟨y1293, hy1293⟩ : ∃ y_ : List Int, y_ = (([] : List Int)) := ⟨_, rfl⟩
 replace H : (spec_l02Back.l0 k l0 y1293 (wrap64 ((l0.length : Int) - 1))) = some r := by first | (rw [hy1293]; with_reducible exact H) | (have H2_ := (Option.bind_some _ _).symm.trans H; rw [hy1293]; with_reducible exact H2_) | (have H2_ := (Option.bind_some _ _).symm.trans H; with_reducible exact H2_) | with_reducible exact H | (rw [hy1293]; exact H) | exact H
 have Ny1293 := Aside0.mk hy1293
 clear hy1293
 have H' := Aside0.mk H
 clear H
 go_enter Try.func137, Try.ntmps137
 go_wp2_with (first | ((with_reducible refine gate_dst (N := 5) rfl ?_); refine Kd.R_lit (Kd.int .i64) _ 2 ?hg (N := 5) ?hd (xs := ([] : List Int)) (inner := []) (ok := fun _ => True) (okp := fun _ => True) ?hr ?hp (fun _ hk => hk) trivial (Below.refl _ _) (Nat.le_refl _) (by simp) ?_; (case hd => rfl); (case hg => rfl); (case hr => first | (go_simp; done) | (go_simp; rfl)); (case hp => exact (Reps.none _ _)); intro v1294 w2 ho3 hb hg_ hnew_; clear hg_ hnew_; (first | rw [← Ny1293.out] at ho3 | (simp only [Int.reduceToNat] at ho3; rw [← Ny1293.out] at ho3)); have n0_ := Aside0.mk (Kd.R_lower ho3 (below_size ZB)); have n1_ := Aside0.mk (below_step ZB hb); clear HB; have HO1295 := n0_; have HB := n1_; clear n0_ n1_; clear hb ho3))
 go_loopg [3, 4] k (fun kq v3 v4 w' => ∃ (x3_1 : List Int) (x4_1 : Int), v4 = .int .i64 x4_1 ∧ Aside0 (spec_l02Back.l0 kq l0 x3_1 x4_1 = some r) ∧ Aside0 (kq ≤ k) ∧ Aside0 (Kd.R (Kd.int .i64) 2 w' w.heap.size (fun _ => True) v3 x3_1) ∧ Aside0 (Below w.heap.size w w'))
 case atStart => exact ⟨(y1293), (wrap64 ((l0.length : Int) - 1)), (by first | rfl | (simp; done) | (simp [*]; done)), H', ⟨Nat.le_refl _⟩, ⟨ZR HO1295⟩, ⟨ZB⟩⟩
 case round =>
  clear H'
  try clear c1
  try clear p2
  obtain ⟨x3_1, x4_1, rfl, HA, HK1, HO_3, HB⟩ := hrel
  cases gk with
  | zero => exact absurd HA.out (by simp [spec_l02Back.l0])
  | succ k1 =>
   have H := HA.out
   clear HA
   simp only [spec_l02Back.l0] at H
   by_cases c4 : x4_1 ≥ 0
   ·rw [if_pos c4] at H
    have c4b0 : decide (0 ≤ x4_1) = true := decide_eq_true c4
    clear c4
    by_cases c5 : 0 ≤ x4_1
    ·rw [if_pos c5] at H
     have c5b0 : decide (0 ≤ x4_1) = true := decide_eq_true c5
     clear c5
     by_cases c6 : x4_1 < (l0.length : Int)
     ·rw [if_pos c6] at H
      have c6b0 : decide (x4_1 < (l0.length : Int)) = true := decide_eq_true c6
      clear c6
      by_cases c7 : x3_1.length < 17592186044416
      ·rw [if_pos c7] at H
       have LMc7 := Aside0.mk c7
       clear c7
       obtain ⟨y1297, hy1297⟩ : ∃ y_ : List Int, y_ = (x3_1 ++ [rd l0 x4_1]) := ⟨_, rfl⟩
       replace H : (spec_l02Back.l0 k1 l0 y1297 (wrap64 (x4_1 - 1))) = some r := by first | (rw [hy1297]; with_reducible exact H) | (have H2_ := (Option.bind_some _ _).symm.trans H; rw [hy1297]; with_reducible exact H2_) | (have H2_ := (Option.bind_some _ _).symm.trans H; with_reducible exact H2_) | with_reducible exact H | (rw [hy1297]; exact H) | exact H
       have Ny1297 := Aside0.mk hy1297
       clear hy1297
       have H' := Aside0.mk H
       clear H
       have p1296 : 0 ≤ (x4_1 : Int) := of_decide_eq_true (by first | (with_reducible assumption) | assumption)
       have q1296 : x4_1 < (l0.length : Int) := of_decide_eq_true (by first | (with_reducible assumption) | assumption)
       obtain ⟨ad1296, e1296, hx1296_0⟩ := Kd.at_int HR0.out x4_1 p1296 q1296
       cases e1296
       replace hx1296_0 := (HB.out.cell (World.block_lt_of_cell? w _ hx1296_0)).trans hx1296_0
       replace p1296 := eq_true p1296
       replace q1296 := eq_true q1296
       go_wp2_with (first | ((with_reducible refine gate_builtin (b := .append) (xs := #[.tmp 13, .tmp 18]) rfl ?_); at_builtin; refine Kd.R_append (Kd.int .i64) (w0 := w) w.heap.size rfl (.tmp 13) (.tmp 18) 22 2 (.int .i64 0) 8 rfl Try.underlying22 info2 rfl (by decide) (by omega) u3 x3_1 (rd l0 x4_1) [.int .i64 (rd l0 x4_1)] (fun _ => True) (fun _ => False) rfl rfl ?aP (fun _ hk => hk.elim) ?aF ?aO ?aB ?aS ?aL ?_; (case aP => exact rfl); (case aB => exact ZB); (case aF => exact (fun _ _ => trivial)); (case aO => exact (ZR HO_3)); (case aS => exact (below_size ZB)); (case aL => have := LMc7.out; omega); intro v1298 w8 ho hb hg hat; rw [← Ny1297.out] at ho; have n0_ := Aside0.mk (hb); have n1_ := Aside0.mk (ho); clear HB; clear HO_3; have HB := n0_; have HO1299 := n1_; clear n0_ n1_; clear ho hb hg hat))
       go_roundg k1
       case measure => have := HK1.out; omega
       case rel => exact ⟨(y1297), (wrap64 (x4_1 - 1)), (by first | rfl | (simp; done) | (simp [*]; done)), H', ⟨by have := HK1.out; omega⟩, ⟨ZR HO1299⟩, ⟨ZB⟩⟩
      ·rw [if_neg c7] at H
       exact absurd H (by simp)
     ·rw [if_neg c6] at H
      exact absurd H (by simp)
    ·rw [if_neg c5] at H
     exact absurd H (by simp)
   ·rw [if_neg c4] at H
    have c4b0 : decide (0 ≤ x4_1) = false := decide_eq_false c4
    clear c4
    obtain rfl := Option.some.inj H
    go_wp2
    go_ret
    exact ⟨_, by first | rfl | (simp [errW_none, errW_some] <;> rfl) | (simp [*, errW_none, errW_some] <;> rfl), by refine ZQ ?_; exact HO_3.out, ZB⟩

/-! ### spec_l02Pascal: function 138 -/
def spec_l02Pascal.l0 : Nat → Int → List Int → List Int → Int → Option (List Int)
 | 0, _, _, _, _ => none
 | k + 1, x0, x1, x5, x6 => if x6 < (x1.length : Int) then (if 0 ≤ (wrap64 (x6 - 1)) then (if (wrap64 (x6 - 1)) < (x1.length : Int) then (if 0 ≤ x6 then (if x0 = 0 then (none) else (if x5.length < 17592186044416 then (spec_l02Pascal.l0 k x0 x1 (x5 ++ [Int.tmod (wrap64 ((rd x1 (wrap64 (x6 - 1))) + (rd x1 x6))) x0]) (wrap64 (x6 + 1))) else (none))) else (none)) else (none)) else (none)) else (if x0 = 0 then (none) else (if x5.length < 17592186044416 then (some (x5 ++ [(1 : Int) % x0])) else (none)))
def spec_l02Pascal.f (k : Nat) (a0 : Int) (l1 : List Int) : Option (List Int) := if a0 = 0 then (none) else (spec_l02Pascal.l0 k a0 l1 (([(1 : Int) % a0] : List Int)) 1)
theorem spec_l02Pascal.mono_l : ∀ k, (∀ y0 y1 y2 y3, LeO (spec_l02Pascal.l0 k y0 y1 y2 y3) (spec_l02Pascal.l0 (k + 1) y0 y1 y2 y3))
 | 0 => fun _ _ _ _ r h => by simp [spec_l02Pascal.l0] at h
 | k + 1 => by
  have ih0 := spec_l02Pascal.mono_l k
  ·intro y0 y1 y2 y3
   unfold spec_l02Pascal.l0
   repeat' first
   | (with_reducible exact ih0 _ _ _ _)
   | (with_reducible exact LeO.refl _)
   | (with_reducible exact LeO.none _)
   | (with_reducible refine LeO.ite ?_ ?_)
   | (with_reducible refine LeO.bind ?_ (fun _ => ?_))
   | exact ih0 _ _ _ _
   | exact LeO.none _
   | refine LeO.ite ?_ ?_
   | refine LeO.bind ?_ (fun _ => ?_)
theorem spec_l02Pascal.mono : ∀ a0 a1 k, LeO (spec_l02Pascal.f k a0 a1) (spec_l02Pascal.f (k + 1) a0 a1) := by
 intro a0 a1 k
 have ih0 := spec_l02Pascal.mono_l k
 unfold spec_l02Pascal.f
 repeat' first
   | (with_reducible exact ih0 _ _ _ _)
   | (with_reducible exact LeO.refl _)
   | (with_reducible exact LeO.none _)
   | (with_reducible refine LeO.ite ?_ ?_)
   | (with_reducible refine LeO.bind ?_ (fun _ => ?_))
   | exact ih0 _ _ _ _
   | exact LeO.none _
   | refine LeO.ite ?_ ?_
   | refine LeO.bind ?_ (fun _ => ?_)
def spec_l02Pascal.T5 : Bool × List (List Nat × List Nat) := (true, [([], []), ([], []), ([], []), ([2], [2]), ([1, 3], [1, 3]), ([4], [4]), ([], []), ([], []), ([6, 7], [6, 7]), ([8], [8]), ([5, 9], [5, 9]), ([], []), ([10, 11], [10, 11]), ([12], [12]), ([0, 13], [0, 13]), ([14, 14, 0, 1, 2, 3, 4, 5, 6, 7, 8, 9, 10, 11, 12, 13, 14], [0, 14])])
def spec_l02Pascal.B5 : List Nat := [0, 0, 0, 4, 14, 30, 0, 0, 192, 448, 1022, 0, 4094, 8190, 16383, 32767]
theorem spec_l02Pascal.tab5 : rtab .any (opsOf Try.f138 5) = spec_l02Pascal.T5 := by kernel_rfl
theorem spec_l02Pascal.bits5 : waitsOk spec_l02Pascal.T5.2 spec_l02Pascal.B5 = true := by kernel_rfl
set_option maxHeartbeats 8000000 in
set_option maxRecDepth 100000 in
theorem spec_l02Pascal.calls (k : Nat) (a0 : Int) (A1 : Option Addr) (c1 : Nat) (l1 : List Int) (r : List Int) (w : World) (hr1 : Kd.C (Kd.int .i64) w A1 l1.length l1) (hc1 : l1.length ≤ c1) (h : spec_l02Pascal.f k a0 l1 = some r) :
  Calls Try.prog 138 #[.int .i64 a0, .slice A1 l1.length c1] w fun e w' => ∃ v0_ : Value, e = .returned (v0_) ∧ Kd.R (Kd.int .i64) 2 w' w.heap.size (fun _ => True) v0_ r ∧ Below w.heap.size w w' := by
 have HR1 := Aside0.mk hr1
 have HC1 := Aside0.mk hc1
 clear hr1 hc1
 have HB := Aside0.mk (Below.refl w.heap.size w)
 have H : (if a0 = 0 then (none) else (spec_l02Pascal.l0 k a0 l1 (([(1 : Int) % a0] : List Int)) 1)) = some r := h
 clear h
 by_cases c3 : a0 = 0
 ·rw [if_pos c3] at H
  exact absurd H (by simp)
 ·rw [if_neg c3] at H
  have c3b0 : (a0 == 0) = false := beq_eq_false_iff_ne.mpr c3
  have c3b1 : (a0 != 0) = true := bne_iff_ne.mpr c3
  obtain ⟨y1300, hy1300⟩ : ∃ y_ : List Int, y_ = (([(1 : Int) % a0] : List Int)) := ⟨_, rfl⟩
  replace H : (spec_l02Pascal.l0 k a0 l1 y1300 1) = some r := by first | (rw [hy1300]; with_reducible exact H) | (have H2_ := (Option.bind_some _ _).symm.trans H; rw [hy1300]; with_reducible exact H2_) | (have H2_ := (Option.bind_some _ _).symm.trans H; with_reducible exact H2_) | with_reducible exact H | (rw [hy1300]; exact H) | exact H
  have Ny1300 := Aside0.mk hy1300
  clear hy1300
  have H' := Aside0.mk H
  clear H
  go_enter Try.func138, Try.ntmps138
  go_wp2_with (first | ((with_reducible refine gate_dst (N := 9) rfl ?_); refine Kd.R_lit (Kd.int .i64) _ 2 ?hg (N := 9) ?hd (xs := ([(1 : Int) % a0] : List Int)) (inner := [.int .i64 ((1 : Int) % a0)]) (ok := fun _ => True) (okp := fun _ => True) ?hr ?hp (fun _ hk => hk) trivial (Below.refl _ _) (Nat.le_refl _) (by simp) ?_; (case hd => rfl); (case hg => rfl); (case hr => first | (go_simp; done) | (go_simp; rfl)); (case hp => exact (Reps.one (show Kd.M (Kd.int .i64) _ _ _ ((1 : Int) % a0) [.int .i64 ((1 : Int) % a0)] from rfl) (Reps.none _ _))); intro v1301 w4 ho5 hb hg_ hnew_; clear hg_ hnew_; (first | rw [← Ny1300.out] at ho5 | (simp only [Int.reduceToNat] at ho5; rw [← Ny1300.out] at ho5)); have n0_ := Aside0.mk (Kd.R_lower ho5 (below_size ZB)); have n1_ := Aside0.mk (below_step ZB hb); clear HB; have HO1302 := n0_; have HB := n1_; clear n0_ n1_; clear hb ho5))
  go_loopg [5, 6] k (fun kq v5 v6 w' => ∃ (x5_1 : List Int) (x6_1 : Int), v6 = .int .i64 x6_1 ∧ Aside0 (spec_l02Pascal.l0 kq a0 l1 x5_1 x6_1 = some r) ∧ Aside0 (kq ≤ k) ∧ Aside0 (Kd.R (Kd.int .i64) 2 w' w.heap.size (fun _ => True) v5 x5_1) ∧ Aside0 (Below w.heap.size w w'))
  case atStart => exact ⟨(y1300), (1), (by first | rfl | (simp; done) | (simp [*]; done)), H', ⟨Nat.le_refl _⟩, ⟨ZR HO1302⟩, ⟨ZB⟩⟩
  case round =>
   clear H'
   try clear c1
   try clear p2
   try clear c3
   try clear c3b0
   try clear c3b1
   obtain ⟨x5_1, x6_1, rfl, HA, HK1, HO_5, HB⟩ := hrel
   cases gk with
   | zero => exact absurd HA.out (by simp [spec_l02Pascal.l0])
   | succ k1 =>
    have H := HA.out
    clear HA
    simp only [spec_l02Pascal.l0] at H
    by_cases c6 : x6_1 < (l1.length : Int)
    ·rw [if_pos c6] at H
     have c6b0 : decide (x6_1 < (l1.length : Int)) = true := decide_eq_true c6
     clear c6
     obtain ⟨ji7, hji7⟩ : ∃ j_ : Int, (wrap64 (x6_1 - 1)) = j_ := ⟨_, rfl⟩
     replace H : (if 0 ≤ (ji7) then (if (ji7) < (l1.length : Int) then (if 0 ≤ x6_1 then (if a0 = 0 then (none) else (if x5_1.length < 17592186044416 then (spec_l02Pascal.l0 k1 a0 l1 (x5_1 ++ [Int.tmod (wrap64 ((rd l1 (ji7)) + (rd l1 x6_1))) a0]) (wrap64 (x6_1 + 1))) else (none))) else (none)) else (none)) else (none)) = some r := by first | (rw [hji7] at H; exact H) | (simp only [hji7] at H ⊢; exact H)
     have hji7w : (IntKind.i64.wrap (x6_1 - 1)) = ji7 := (i64_w _).trans hji7
     by_cases c8 : 0 ≤ (ji7)
     ·rw [if_pos c8] at H
      have c8b0 : decide (0 ≤ (ji7)) = true := decide_eq_true c8
      clear c8
      by_cases c9 : (ji7) < (l1.length : Int)
      ·rw [if_pos c9] at H
       have c9b0 : decide ((ji7) < (l1.length : Int)) = true := decide_eq_true c9
       clear c9
       by_cases c10 : 0 ≤ x6_1
       ·rw [if_pos c10] at H
        have c10b0 : decide (0 ≤ x6_1) = true := decide_eq_true c10
        clear c10
        by_cases c11 : a0 = 0
        ·rw [if_pos c11] at H
         exact absurd H (by simp)
        ·rw [if_neg c11] at H
         have c11b0 : (a0 == 0) = false := beq_eq_false_iff_ne.mpr c11
         have c11b1 : (a0 != 0) = true := bne_iff_ne.mpr c11
         by_cases c12 : x5_1.length < 17592186044416
         ·rw [if_pos c12] at H
          have LMc12 := Aside0.mk c12
          clear c12
          obtain ⟨y1305, hy1305⟩ : ∃ y_ : List Int, y_ = (x5_1 ++ [Int.tmod (wrap64 ((rd l1 (ji7)) + (rd l1 x6_1))) a0]) := ⟨_, rfl⟩
          replace H : (spec_l02Pascal.l0 k1 a0 l1 y1305 (wrap64 (x6_1 + 1))) = some r := by first | (rw [hy1305]; with_reducible exact H) | (have H2_ := (Option.bind_some _ _).symm.trans H; rw [hy1305]; with_reducible exact H2_) | (have H2_ := (Option.bind_some _ _).symm.trans H; with_reducible exact H2_) | with_reducible exact H | (rw [hy1305]; exact H) | exact H
          have Ny1305 := Aside0.mk hy1305
          clear hy1305
          have H' := Aside0.mk H
          clear H
          try go_wp2
          have n0_ := Aside0.mk (Kd.R_drew HO_5.out)
          have n1_ := Aside0.mk (below_drew1 HB.out)
          clear HO_5
          clear HB
          have HO_5 := n0_
          have HB := n1_
          clear n0_ n1_
          have p1303 : 0 ≤ ((ji7) : Int) := of_decide_eq_true (by first | (with_reducible assumption) | assumption)
          have q1303 : (ji7) < (l1.length : Int) := of_decide_eq_true (by first | (with_reducible assumption) | assumption)
          obtain ⟨ad1303, e1303, hx1303_0⟩ := Kd.at_int HR1.out (ji7) p1303 q1303
          have hw1303_0 := hx1303_0
          cases e1303
          replace hx1303_0 := (HB.out.cell (World.block_lt_of_cell? w _ hx1303_0)).trans hx1303_0
          replace p1303 := eq_true p1303
          replace q1303 := eq_true q1303
          have p1304 : 0 ≤ (x6_1 : Int) := of_decide_eq_true (by first | (with_reducible assumption) | assumption)
          have q1304 : x6_1 < (l1.length : Int) := of_decide_eq_true (by first | (with_reducible assumption) | assumption)
          obtain ⟨ad1304, e1304, hx1304_0⟩ := Kd.at_int HR1.out x6_1 p1304 q1304
          have hw1304_0 := hx1304_0
          obtain rfl : ad1303 = ad1304 := (by injection e1304)
          replace hx1304_0 := (HB.out.cell (World.block_lt_of_cell? w _ hx1304_0)).trans hx1304_0
          replace p1304 := eq_true p1304
          replace q1304 := eq_true q1304
          refine start_ (n := 16) (S := fun w' => w'.cell? (ad1303.add ((ji7)).toNat) = some (.int .i64 (rd l1 (ji7))) ∧ w'.cell? (ad1303.add (x6_1).toNat) = some (.int .i64 (rd l1 x6_1))) (ds := []) #[false, false, false, false, false, false, false, false, false, false, false, false, false, false, false, false] (by kernel_rfl) rfl rfl ⟨((HB.out.cell (World.block_lt_of_cell? w _ hw1303_0)).trans hw1303_0), ((HB.out.cell (World.block_lt_of_cell? w _ hw1304_0)).trans hw1304_0)⟩ (fun hHeld => ?_); refine with_tabW spec_l02Pascal.tab5 spec_l02Pascal.bits5 (fun HT_ HW_ => ?_)
          generalize wr.drew = w13 at HO_5 HB hx1303_0 hx1304_0 hHeld ⊢
          refine Zpt 0 (some 16) (h := ?_)
          refine Zpt 1 (some 17) (h := ?_)
          refine Zpt 2 (some 18) (h := ?_)
          refine Zpt 3 (some 19) (h := ?_)
          refine Zpt 4 (some 20) (h := ?_)
          refine Zpt 6 (some 22) (h := ?_)
          refine Zpt 7 (some 23) (h := ?_)
          refine Zpt 8 (some 24) (h := ?_)
          refine Zpt 11 (some 27) (h := ?_)
          refine ZtW2 5 (some 21) hHeld (h := ?_)
          refine ZtW2 9 (some 25) hHeld (h := ?_)
          refine Zpt 10 (some 26) (h := ?_)
          refine Zpt 12 (some 28) (h := ?_)
          refine one_ (i := 13) (N := some 29) #[true, true, true, true, true, true, true, true, true, true, true, true, true, true, false, false] rfl rfl (one_of HT_.out (by kernel_rfl)) (by decide) (fun K hK => ?_)
          refine value_ (w1 := ?_) (v := ?_) (by rfl) rfl ?_ ?_
          rotate_left 2
          ·go_simp
           constructor
           ·rfl
           ·rfl
          refine hK.out _ _ ⟨(World.cell?_alloc_lt _ _ _ (World.block_lt_of_cell? _ _ (((HB.out.cell (World.block_lt_of_cell? w _ hw1303_0)).trans hw1303_0)))).trans (((HB.out.cell (World.block_lt_of_cell? w _ hw1303_0)).trans hw1303_0)), (World.cell?_alloc_lt _ _ _ (World.block_lt_of_cell? _ _ (((HB.out.cell (World.block_lt_of_cell? w _ hw1304_0)).trans hw1304_0)))).trans (((HB.out.cell (World.block_lt_of_cell? w _ hw1304_0)).trans hw1304_0))⟩ (fun hHeld => ?_)
          clear hK K
          refine norm_ (a' := ?_) ?_ ?_
          rotate_left
          ·show Act.put _ (some 29) _ = _
           simp only [Act.put, List.setIfInBounds_toArray, List.set_cons_zero, List.set_cons_succ, i64_w, i32_w]
           rfl
          refine one_ (i := 14) (N := some 30) #[true, true, true, true, true, true, true, true, true, true, true, true, true, true, true, false] rfl rfl (one_of HT_.out (by kernel_rfl)) (by decide) (fun K hK => ?_)
          refine Kd.R_append_step (Kd.int .i64) (w0 := w) w.heap.size (by rfl) (.tmp 16) (.tmp 29) 22 2 (.int .i64 0) 8 rfl Try.underlying22 info2 rfl (by decide) (by omega) u5 x5_1 (Int.tmod (wrap64 ((rd l1 (ji7)) + (rd l1 x6_1))) a0) [.int .i64 (Int.tmod (wrap64 ((rd l1 (ji7)) + (rd l1 x6_1))) a0)] (fun _ => True) (fun _ => False) rfl rfl ?aP (fun _ hk => hk.elim) ?aF ?aO ?aB ?aS ?aL ?_
          (case aP => exact rfl)
          (case aB => exact ZB)
          (case aF => exact (fun _ _ => trivial))
          (case aO => exact (ZR HO_5))
          (case aS => exact (below_size ZB))
          (case aL => have := LMc12.out; omega)
          intro v1306 w14 ho hb hg hat
          rw [← Ny1305.out] at ho
          have n0_ := Aside0.mk (hb)
          have n1_ := Aside0.mk (ho)
          clear HB
          clear HO_5
          have HB := n0_
          have HO1307 := n1_
          clear n0_ n1_
          clear ho hb hg hat
          refine hK.out _ _ ⟨((HB.out.cell (World.block_lt_of_cell? w _ hw1303_0)).trans hw1303_0), ((HB.out.cell (World.block_lt_of_cell? w _ hw1304_0)).trans hw1304_0)⟩ (fun hHeld => ?_)
          clear hK K
          refine norm_ (a' := ?_) ?_ ?_
          rotate_left
          ·show Act.put _ (some 30) _ = _
           simp only [Act.put, List.setIfInBounds_toArray, List.set_cons_zero, List.set_cons_succ, i64_w, i32_w]
           rfl
          refine Zpt 15 (some 5) (h := ?_)
          refine done_ (done_of HT_.out (by kernel_rfl)) ?_
          try go_wp2
          go_roundg k1
          case measure => have := HK1.out; omega
          case rel => exact ⟨(y1305), (wrap64 (x6_1 + 1)), (by first | rfl | (simp; done) | (simp [*]; done)), H', ⟨by have := HK1.out; omega⟩, ⟨ZR HO1307⟩, ⟨ZB⟩⟩
         ·rw [if_neg c12] at H
          exact absurd H (by simp)
       ·rw [if_neg c10] at H
        exact absurd H (by simp)
      ·rw [if_neg c9] at H
       exact absurd H (by simp)
     ·rw [if_neg c8] at H
      exact absurd H (by simp)
    ·rw [if_neg c6] at H
     have c6b0 : decide (x6_1 < (l1.length : Int)) = false := decide_eq_false c6
     clear c6
     by_cases c15 : a0 = 0
     ·rw [if_pos c15] at H
      exact absurd H (by simp)
     ·rw [if_neg c15] at H
      have c15b0 : (a0 == 0) = false := beq_eq_false_iff_ne.mpr c15
      have c15b1 : (a0 != 0) = true := bne_iff_ne.mpr c15
      by_cases c16 : x5_1.length < 17592186044416
      ·rw [if_pos c16] at H
       have LMc16 := Aside0.mk c16
       clear c16
       obtain ⟨y1308, hy1308⟩ : ∃ y_ : List Int, y_ = (x5_1 ++ [(1 : Int) % a0]) := ⟨_, rfl⟩
       replace H : (some y1308) = some r := by first | (rw [hy1308]; with_reducible exact H) | (have H2_ := (Option.bind_some _ _).symm.trans H; rw [hy1308]; with_reducible exact H2_) | (have H2_ := (Option.bind_some _ _).symm.trans H; with_reducible exact H2_) | with_reducible exact H | (rw [hy1308]; exact H) | exact H
       have Ny1308 := Aside0.mk hy1308
       clear hy1308
       obtain rfl := Option.some.inj H
       go_wp2_with (first | ((with_reducible refine gate_builtin (b := .append) (xs := #[.tmp 31, .tmp 34]) rfl ?_); at_builtin; refine Kd.R_append (Kd.int .i64) (w0 := w) w.heap.size rfl (.tmp 31) (.tmp 34) 22 2 (.int .i64 0) 8 rfl Try.underlying22 info2 rfl (by decide) (by omega) u5 x5_1 ((1 : Int) % a0) [.int .i64 ((1 : Int) % a0)] (fun _ => True) (fun _ => False) rfl rfl ?aP (fun _ hk => hk.elim) ?aF ?aO ?aB ?aS ?aL ?_; (case aP => exact rfl); (case aB => exact ZB); (case aF => exact (fun _ _ => trivial)); (case aO => exact (ZR HO_5)); (case aS => exact (below_size ZB)); (case aL => have := LMc16.out; omega); intro v1309 w17 ho hb hg hat; rw [← Ny1308.out] at ho; have n0_ := Aside0.mk (hb); have n1_ := Aside0.mk (ho); clear HB; clear HO_5; have HB := n0_; have HO1310 := n1_; clear n0_ n1_; clear ho hb hg hat))
       go_ret
       exact ⟨_, by first | rfl | (simp [errW_none, errW_some] <;> rfl) | (simp [*, errW_none, errW_some] <;> rfl), by refine ZQ ?_; exact HO1310.out, ZB⟩
      ·rw [if_neg c16] at H
       exact absurd H (by simp)

/-! ### spec_l02Named: function 131 -/
def spec_l02Named.l0 : Nat → ByteArray → Int → Int → List Int → List Int → Int → Option (List Int × Bool)
 | 0, _, _, _, _, _, _ => none
 | k + 1, x0, x1, x2, x8, x9, x10 => if x10 < x2 then (if x0.toList = ([117, 110, 105, 102, 111, 114, 109] : List UInt8) then (if x1 = 0 then (none) else (if (Int.tmod (wrap64 (x10 + 1)) x1) = 0 then (some (([] : List Int), false)) else ((spec_l01Inverse.f k x1 (Int.tmod (wrap64 (x10 + 1)) x1)).bind fun t1317 => (if x8.length < 17592186044416 then (spec_l02Named.l0 k x0 x1 x2 (x8 ++ [t1317]) x9 (wrap64 (x10 + 1))) else (none))))) else (if x0.toList = ([108, 97, 103, 117, 101, 114, 114, 101] : List UInt8) then (if x10 > 0 then (if 0 ≤ (wrap64 (x10 - 1)) then (if (wrap64 (x10 - 1)) < (x8.length : Int) then (if x1 = 0 then (none) else (if x8.length < 17592186044416 then (spec_l02Named.l0 k x0 x1 x2 (x8 ++ [Int.tmod (wrap64 ((rd x8 (wrap64 (x10 - 1))) * x10)) x1]) x9 (wrap64 (x10 + 1))) else (none))) else (none)) else (none)) else (if x8.length < 17592186044416 then (spec_l02Named.l0 k x0 x1 x2 (x8 ++ [1]) x9 (wrap64 (x10 + 1))) else (none))) else (if x0.toList = ([104, 101, 114, 109, 105, 116, 101] : List UInt8) then (if x10 = 0 then (if x8.length < 17592186044416 then (spec_l02Named.l0 k x0 x1 x2 (x8 ++ [1]) x9 (wrap64 (x10 + 1))) else (none)) else (if (Int.tmod x10 2) = 0 then (if 0 ≤ (wrap64 (x10 - 2)) then (if (wrap64 (x10 - 2)) < (x8.length : Int) then (if x1 = 0 then (none) else (if x8.length < 17592186044416 then (spec_l02Named.l0 k x0 x1 x2 (x8 ++ [Int.tmod (wrap64 ((rd x8 (wrap64 (x10 - 2))) * (wrap64 (x10 - 1)))) x1]) x9 (wrap64 (x10 + 1))) else (none))) else (none)) else (none)) else (if x8.length < 17592186044416 then (spec_l02Named.l0 k x0 x1 x2 (x8 ++ [0]) x9 (wrap64 (x10 + 1))) else (none)))) else (if x0.toList = ([99, 97, 116, 97, 108, 97, 110] : List UInt8) then ((spec_l02Back.f k x8).bind fun t1338 => ((spec_l02Sum.f k x1 x10 x8 t1338).bind fun t1341 => (if x8.length < 17592186044416 then (spec_l02Named.l0 k x0 x1 x2 (x8 ++ [t1341]) x9 (wrap64 (x10 + 1))) else (none)))) else ((spec_l02Sum.f k x1 x10 x8 x9).bind fun t1345 => (if x10 > 0 then ((spec_l02Pascal.f k x1 x9).bind fun t1346 => (if x8.length < 17592186044416 then (spec_l02Named.l0 k x0 x1 x2 (x8 ++ [t1345]) t1346 (wrap64 (x10 + 1))) else (none))) else (if x8.length < 17592186044416 then (spec_l02Named.l0 k x0 x1 x2 (x8 ++ [t1345]) x9 (wrap64 (x10 + 1))) else (none)))))))) else (some (x8, true))
def spec_l02Named.f (k : Nat) (a0 : ByteArray) (a1 : Int) (a2 : Int) : Option (List Int × Bool) := spec_l02Named.l0 k a0 a1 a2 (([] : List Int)) (([1] : List Int)) 0
theorem spec_l02Named.mono_l : ∀ k, (∀ y0 y1 y2 y3 y4 y5, LeO (spec_l02Named.l0 k y0 y1 y2 y3 y4 y5) (spec_l02Named.l0 (k + 1) y0 y1 y2 y3 y4 y5))
 | 0 => fun _ _ _ _ _ _ r h => by simp [spec_l02Named.l0] at h
 | k + 1 => by
  have ih0 := spec_l02Named.mono_l k
  ·intro y0 y1 y2 y3 y4 y5
   unfold spec_l02Named.l0
   repeat' first
   | (with_reducible exact ih0 _ _ _ _ _ _)
   | (with_reducible exact spec_l01Inverse.mono _ _ _)
   | (with_reducible exact spec_l02Back.mono _ _)
   | (with_reducible exact spec_l02Pascal.mono _ _ _)
   | (with_reducible exact spec_l02Sum.mono _ _ _ _ _)
   | (with_reducible exact LeO.refl _)
   | (with_reducible exact LeO.none _)
   | (with_reducible refine LeO.ite ?_ ?_)
   | (with_reducible refine LeO.bind ?_ (fun _ => ?_))
   | exact ih0 _ _ _ _ _ _
   | exact spec_l01Inverse.mono _ _ _
   | exact spec_l02Back.mono _ _
   | exact spec_l02Pascal.mono _ _ _
   | exact spec_l02Sum.mono _ _ _ _ _
   | exact LeO.none _
   | refine LeO.ite ?_ ?_
   | refine LeO.bind ?_ (fun _ => ?_)
theorem spec_l02Named.mono : ∀ a0 a1 a2 k, LeO (spec_l02Named.f k a0 a1 a2) (spec_l02Named.f (k + 1) a0 a1 a2) := by
 intro a0 a1 a2 k
 have ih0 := spec_l02Named.mono_l k
 unfold spec_l02Named.f
 repeat' first
   | (with_reducible exact ih0 _ _ _ _ _ _)
   | (with_reducible exact spec_l01Inverse.mono _ _ _)
   | (with_reducible exact spec_l02Back.mono _ _)
   | (with_reducible exact spec_l02Pascal.mono _ _ _)
   | (with_reducible exact spec_l02Sum.mono _ _ _ _ _)
   | (with_reducible exact LeO.refl _)
   | (with_reducible exact LeO.none _)
   | (with_reducible refine LeO.ite ?_ ?_)
   | (with_reducible refine LeO.bind ?_ (fun _ => ?_))
   | exact ih0 _ _ _ _ _ _
   | exact spec_l01Inverse.mono _ _ _
   | exact spec_l02Back.mono _ _
   | exact spec_l02Pascal.mono _ _ _
   | exact spec_l02Sum.mono _ _ _ _ _
   | exact LeO.none _
   | refine LeO.ite ?_ ?_
   | refine LeO.bind ?_ (fun _ => ?_)
set_option maxHeartbeats 8000000 in
set_option maxRecDepth 100000 in
theorem spec_l02Named.calls (k : Nat) (a0 : ByteArray) (a1 : Int) (a2 : Int) (r1 : List Int) (r2 : Bool) (w : World) (h : spec_l02Named.f k a0 a1 a2 = some (r1, r2)) :
  Calls Try.prog 131 #[.string a0, .int .i64 a1, .int .i64 a2] w fun e w' => ∃ v0_ : Value, e = .returned (.tuple #[v0_, .bool r2]) ∧ Kd.R (Kd.int .i64) 2 w' w.heap.size (fun _ => True) v0_ r1 ∧ Below w.heap.size w w' := by
 have HB := Aside0.mk (Below.refl w.heap.size w)
 have H : (spec_l02Named.l0 k a0 a1 a2 (([] : List Int)) (([1] : List Int)) 0) = some (r1, r2) := h
 clear h
 obtain ⟨y1311, hy1311⟩ : ∃ y_ : List Int, y_ = (([] : List Int)) := ⟨_, rfl⟩
 replace H : (spec_l02Named.l0 k a0 a1 a2 y1311 (([1] : List Int)) 0) = some (r1, r2) := by first | (rw [hy1311]; with_reducible exact H) | (have H2_ := (Option.bind_some _ _).symm.trans H; rw [hy1311]; with_reducible exact H2_) | (have H2_ := (Option.bind_some _ _).symm.trans H; with_reducible exact H2_) | with_reducible exact H | (rw [hy1311]; exact H) | exact H
 have Ny1311 := Aside0.mk hy1311
 clear hy1311
 obtain ⟨y1314, hy1314⟩ : ∃ y_ : List Int, y_ = (([1] : List Int)) := ⟨_, rfl⟩
 replace H : (spec_l02Named.l0 k a0 a1 a2 y1311 y1314 0) = some (r1, r2) := by first | (rw [hy1314]; with_reducible exact H) | (have H2_ := (Option.bind_some _ _).symm.trans H; rw [hy1314]; with_reducible exact H2_) | (have H2_ := (Option.bind_some _ _).symm.trans H; with_reducible exact H2_) | with_reducible exact H | (rw [hy1314]; exact H) | exact H
 have Ny1314 := Aside0.mk hy1314
 clear hy1314
 have H' := Aside0.mk H
 clear H
 go_enter Try.func131, Try.ntmps131
 go_wp2_with (first | ((with_reducible refine gate_dst (N := 12) rfl ?_); refine Kd.R_lit (Kd.int .i64) _ 2 ?hg (N := 12) ?hd (xs := ([] : List Int)) (inner := []) (ok := fun _ => True) (okp := fun _ => True) ?hr ?hp (fun _ hk => hk) trivial (Below.refl _ _) (Nat.le_refl _) (by simp) ?_; (case hd => rfl); (case hg => rfl); (case hr => first | (go_simp; done) | (go_simp; rfl)); (case hp => exact (Reps.none _ _)); intro v1312 w4 ho5 hb hg_ hnew_; clear hg_ hnew_; (first | rw [← Ny1311.out] at ho5 | (simp only [Int.reduceToNat] at ho5; rw [← Ny1311.out] at ho5)); have n0_ := Aside0.mk (Kd.R_lower ho5 (below_size ZB)); have n1_ := Aside0.mk (below_step ZB hb); clear HB; have HO1313 := n0_; have HB := n1_; clear n0_ n1_; clear hb ho5) | ((with_reducible refine gate_dst (N := 13) rfl ?_); refine Kd.R_lit (Kd.int .i64) _ 2 ?hg (N := 13) ?hd (xs := ([1] : List Int)) (inner := [.int .i64 1]) (ok := fun _ => True) (okp := fun _ => True) ?hr ?hp (fun _ hk => hk) trivial (Below.refl _ _) (Nat.le_refl _) (by simp) ?_; (case hd => rfl); (case hg => rfl); (case hr => first | (go_simp; done) | (go_simp; rfl)); (case hp => exact (Reps.one (show Kd.M (Kd.int .i64) _ _ _ 1 [.int .i64 1] from rfl) (Reps.none _ _))); intro v1315 w6 ho7 hb hg_ hnew_; clear hg_ hnew_; (first | rw [← Ny1314.out] at ho7 | (simp only [Int.reduceToNat] at ho7; rw [← Ny1314.out] at ho7)); have n0_ := Aside0.mk (Kd.R_elder' (ZR HO1313) (Kd.R_base ho7) hb); have n1_ := Aside0.mk (Kd.R_lower (Kd.R_new' ho7 (Kd.R_lt (ZR HO1313))) (below_size ZB)); have n2_ := Aside0.mk (below_step ZB hb); clear HO1313; clear HB; have HO1313 := n0_; have HO1316 := n1_; have HB := n2_; clear n0_ n1_ n2_; clear hb ho7))
 go_loopg [8, 9, 10] k (fun kq v8 v9 v10 w' => ∃ (x8_1 : List Int) (x9_1 : List Int) (x10_1 : Int), v10 = .int .i64 x10_1 ∧ Aside0 (spec_l02Named.l0 kq a0 a1 a2 x8_1 x9_1 x10_1 = some (r1, r2)) ∧ Aside0 (kq ≤ k) ∧ Aside0 (Kd.R (Kd.int .i64) 2 w' w.heap.size (fun k_ => some k_ ≠ (v9 : Value).ownBlock) v8 x8_1) ∧ Aside0 (Kd.R (Kd.int .i64) 2 w' w.heap.size (fun k_ => some k_ ≠ (v8 : Value).ownBlock) v9 x9_1) ∧ Aside0 (Below w.heap.size w w'))
 case atStart => exact ⟨(y1311), (y1314), (0), (by first | rfl | (simp; done) | (simp [*]; done)), H', ⟨Nat.le_refl _⟩, ⟨by refine ZQ ?_; exact Kd.R_mono HO1313.out (fun _ hk => hk.2)⟩, ⟨by refine ZQ ?_; exact Kd.R_mono HO1316.out (fun _ hk => hk.2)⟩, ⟨ZB⟩⟩
 case round =>
  clear H'
  try clear c1
  try clear p2
  obtain ⟨x8_1, x9_1, x10_1, rfl, HA, HK1, HO_8, HO_9, HB⟩ := hrel
  cases gk with
  | zero => exact absurd HA.out (by simp [spec_l02Named.l0])
  | succ k1 =>
   have H := HA.out
   clear HA
   simp only [spec_l02Named.l0] at H
   by_cases c8 : x10_1 < a2
   ·rw [if_pos c8] at H
    have c8b0 : decide (x10_1 < a2) = true := decide_eq_true c8
    clear c8
    by_cases c9 : a0.toList = ([117, 110, 105, 102, 111, 114, 109] : List UInt8)
    ·rw [if_pos c9] at H
     have c9b0 : (a0.toList == ([117, 110, 105, 102, 111, 114, 109] : List UInt8)) = true := beq_iff_eq.mpr c9
     have c9b1 : (a0.toList != ([117, 110, 105, 102, 111, 114, 109] : List UInt8)) = false := bne_eq_false_iff_eq.mpr c9
     clear c9
     by_cases c10 : a1 = 0
     ·rw [if_pos c10] at H
      exact absurd H (by simp)
     ·rw [if_neg c10] at H
      have c10b0 : (a1 == 0) = false := beq_eq_false_iff_ne.mpr c10
      have c10b1 : (a1 != 0) = true := bne_iff_ne.mpr c10
      by_cases c11 : (Int.tmod (wrap64 (x10_1 + 1)) a1) = 0
      ·rw [if_pos c11] at H
       have c11b0 : ((Int.tmod (wrap64 (x10_1 + 1)) a1) == 0) = true := beq_iff_eq.mpr c11
       have c11b1 : ((Int.tmod (wrap64 (x10_1 + 1)) a1) != 0) = false := bne_eq_false_iff_eq.mpr c11
       clear c11
       simp only [Option.some.injEq, Prod.mk.injEq] at H
       obtain ⟨rfl, rfl⟩ := H
       go_wp2
       go_ret2
       exact ⟨_, by first | rfl | (simp [errW_none, errW_some] <;> rfl) | (simp [*, errW_none, errW_some] <;> rfl), by first | exact Kd.R_nil _ _ _ _ _ | exact Kd.N_nil _ _ _ _ _ | exact Kd.V_nil _ _ _ _ _ | exact Kd.Q_nil _ _ _ _ _ | exact Kd.S_nil _ _ _ _ _, ZB⟩
      ·rw [if_neg c11] at H
       have c11b0 : ((Int.tmod (wrap64 (x10_1 + 1)) a1) == 0) = false := beq_eq_false_iff_ne.mpr c11
       have c11b1 : ((Int.tmod (wrap64 (x10_1 + 1)) a1) != 0) = true := bne_iff_ne.mpr c11
       replace H := Option.bind_eq_some_iff.mp H
       obtain ⟨t1317, A120, H⟩ := H
       replace H : (if x8_1.length < 17592186044416 then (spec_l02Named.l0 k1 a0 a1 a2 (x8_1 ++ [t1317]) x9_1 (wrap64 (x10_1 + 1))) else (none)) = some (r1, r2) := H
       have A12 := Aside0.mk A120
       clear A120
       by_cases c13 : x8_1.length < 17592186044416
       ·rw [if_pos c13] at H
        have LMc13 := Aside0.mk c13
        clear c13
        obtain ⟨y1318, hy1318⟩ : ∃ y_ : List Int, y_ = (x8_1 ++ [t1317]) := ⟨_, rfl⟩
        replace H : (spec_l02Named.l0 k1 a0 a1 a2 y1318 x9_1 (wrap64 (x10_1 + 1))) = some (r1, r2) := by first | (rw [hy1318]; with_reducible exact H) | (have H2_ := (Option.bind_some _ _).symm.trans H; rw [hy1318]; with_reducible exact H2_) | (have H2_ := (Option.bind_some _ _).symm.trans H; with_reducible exact H2_) | with_reducible exact H | (rw [hy1318]; exact H) | exact H
        have Ny1318 := Aside0.mk hy1318
        clear hy1318
        have H' := Aside0.mk H
        clear H
        go_wp2_with (first | ((with_reducible refine gate_callee (f := 100) rfl ?_); refine goesL_ (some 42) rfl rfl Try.func100 (by kernel_rfl) rfl #[.int .i64 a1, .int .i64 (Int.tmod (wrap64 (x10_1 + 1)) a1)] rfl ZA ?_; (with_reducible refine (spec_l01Inverse.calls k1 a1 (Int.tmod (wrap64 (x10_1 + 1)) a1) t1317 _ A12.out).mono ?_); rintro e w' ⟨rfl, ⟨nd, rfl⟩⟩; refine ⟨_, rfl, ?_⟩) | ((with_reducible refine gate_builtin (b := .append) (xs := #[.tmp 83, .tmp 85]) rfl ?_); at_builtin; refine Kd.R_append (Kd.int .i64) (w0 := w) w.heap.size rfl (.tmp 83) (.tmp 85) 22 2 (.int .i64 0) 8 rfl Try.underlying22 info2 rfl (by decide) (by omega) u8 x8_1 t1317 [.int .i64 t1317] (fun k_ => some k_ ≠ (u9 : Value).ownBlock) (fun _ => False) rfl rfl ?aP (fun _ hk => hk.elim) ?aF ?aO ?aB ?aS ?aL ?_; (case aP => exact rfl); (case aB => exact ZB); (case aF => exact (fun k_ hk => Kd.fresh' (Kd.R_lt (ZR HO_9)) k_ hk)); (case aO => exact (ZR HO_8)); (case aS => exact (below_size ZB)); (case aL => have := LMc13.out; omega); intro v1319 w14 ho hb hg hat; rw [← Ny1318.out] at ho; have n0_ := Aside0.mk (Kd.R_after (ok := (fun _ => True)) (by refine ZQ ?_; exact Kd.R_mono HO_9.out (fun _ hk => (And.intro (trivial) (hk)))) hg hat); have n1_ := Aside0.mk (hb); have n2_ := Aside0.mk (ho); clear HO_9; clear HB; clear HO_8; have HO_9 := n0_; have HB := n1_; have HO1320 := n2_; clear n0_ n1_ n2_; clear ho hb hg hat))
        go_roundg k1
        case measure => have := HK1.out; omega
        case rel => exact ⟨(y1318), (x9_1), (wrap64 (x10_1 + 1)), (by first | rfl | (simp; done) | (simp [*]; done)), H', ⟨by have := HK1.out; omega⟩, ⟨ZR HO1320⟩, ⟨by refine ZQ ?_; exact Kd.R_mono HO_9.out (fun _ hk => hk.2)⟩, ⟨ZB⟩⟩
       ·rw [if_neg c13] at H
        exact absurd H (by simp)
    ·rw [if_neg c9] at H
     have c9b0 : (a0.toList == ([117, 110, 105, 102, 111, 114, 109] : List UInt8)) = false := beq_eq_false_iff_ne.mpr c9
     have c9b1 : (a0.toList != ([117, 110, 105, 102, 111, 114, 109] : List UInt8)) = true := bne_iff_ne.mpr c9
     by_cases c15 : a0.toList = ([108, 97, 103, 117, 101, 114, 114, 101] : List UInt8)
     ·rw [if_pos c15] at H
      have c15b0 : (a0.toList == ([108, 97, 103, 117, 101, 114, 114, 101] : List UInt8)) = true := beq_iff_eq.mpr c15
      have c15b1 : (a0.toList != ([108, 97, 103, 117, 101, 114, 114, 101] : List UInt8)) = false := bne_eq_false_iff_eq.mpr c15
      clear c15
      by_cases c16 : x10_1 > 0
      ·rw [if_pos c16] at H
       have c16b0 : decide (0 < x10_1) = true := decide_eq_true c16
       clear c16
       obtain ⟨ji17, hji17⟩ : ∃ j_ : Int, (wrap64 (x10_1 - 1)) = j_ := ⟨_, rfl⟩
       replace H : (if 0 ≤ (ji17) then (if (ji17) < (x8_1.length : Int) then (if a1 = 0 then (none) else (if x8_1.length < 17592186044416 then (spec_l02Named.l0 k1 a0 a1 a2 (x8_1 ++ [Int.tmod (wrap64 ((rd x8_1 (ji17)) * x10_1)) a1]) x9_1 (wrap64 (x10_1 + 1))) else (none))) else (none)) else (none)) = some (r1, r2) := by first | (rw [hji17] at H; exact H) | (simp only [hji17] at H ⊢; exact H)
       have hji17w : (IntKind.i64.wrap (x10_1 - 1)) = ji17 := (i64_w _).trans hji17
       by_cases c18 : 0 ≤ (ji17)
       ·rw [if_pos c18] at H
        have c18b0 : decide (0 ≤ (ji17)) = true := decide_eq_true c18
        clear c18
        by_cases c19 : (ji17) < (x8_1.length : Int)
        ·rw [if_pos c19] at H
         have c19b0 : decide ((ji17) < (x8_1.length : Int)) = true := decide_eq_true c19
         clear c19
         by_cases c20 : a1 = 0
         ·rw [if_pos c20] at H
          exact absurd H (by simp)
         ·rw [if_neg c20] at H
          have c20b0 : (a1 == 0) = false := beq_eq_false_iff_ne.mpr c20
          have c20b1 : (a1 != 0) = true := bne_iff_ne.mpr c20
          by_cases c21 : x8_1.length < 17592186044416
          ·rw [if_pos c21] at H
           have LMc21 := Aside0.mk c21
           clear c21
           obtain ⟨y1322, hy1322⟩ : ∃ y_ : List Int, y_ = (x8_1 ++ [Int.tmod (wrap64 ((rd x8_1 (ji17)) * x10_1)) a1]) := ⟨_, rfl⟩
           replace H : (spec_l02Named.l0 k1 a0 a1 a2 y1322 x9_1 (wrap64 (x10_1 + 1))) = some (r1, r2) := by first | (rw [hy1322]; with_reducible exact H) | (have H2_ := (Option.bind_some _ _).symm.trans H; rw [hy1322]; with_reducible exact H2_) | (have H2_ := (Option.bind_some _ _).symm.trans H; with_reducible exact H2_) | with_reducible exact H | (rw [hy1322]; exact H) | exact H
           have Ny1322 := Aside0.mk hy1322
           clear hy1322
           have H' := Aside0.mk H
           clear H
           obtain ⟨Ao22, co22, eo22⟩ := Kd.R_slice HO_8.out
           subst eo22
           have p1321 : 0 ≤ ((ji17) : Int) := of_decide_eq_true (by first | (with_reducible assumption) | assumption)
           have q1321 : (ji17) < (x8_1.length : Int) := of_decide_eq_true (by first | (with_reducible assumption) | assumption)
           obtain ⟨ad1321, e1321, hx1321_0⟩ := Kd.at_int (Kd.R_reads' HO_8.out).2.2 (ji17) p1321 q1321
           cases e1321
           replace p1321 := eq_true p1321
           replace q1321 := eq_true q1321
           go_wp2_with (first | ((with_reducible refine gate_builtin (b := .append) (xs := #[.tmp 83, .tmp 85]) rfl ?_); at_builtin; refine Kd.R_append (Kd.int .i64) (w0 := w) w.heap.size rfl (.tmp 83) (.tmp 85) 22 2 (.int .i64 0) 8 rfl Try.underlying22 info2 rfl (by decide) (by omega) (.slice (some ad1321) x8_1.length co22) x8_1 (Int.tmod (wrap64 ((rd x8_1 (ji17)) * x10_1)) a1) [.int .i64 (Int.tmod (wrap64 ((rd x8_1 (ji17)) * x10_1)) a1)] (fun k_ => some k_ ≠ (u9 : Value).ownBlock) (fun _ => False) rfl rfl ?aP (fun _ hk => hk.elim) ?aF ?aO ?aB ?aS ?aL ?_; (case aP => exact rfl); (case aB => exact ZB); (case aF => exact (fun k_ hk => Kd.fresh' (Kd.R_lt (ZR HO_9)) k_ hk)); (case aO => exact (ZR HO_8)); (case aS => exact (below_size ZB)); (case aL => have := LMc21.out; omega); intro v1323 w23 ho hb hg hat; rw [← Ny1322.out] at ho; have n0_ := Aside0.mk (Kd.R_after (ok := (fun _ => True)) (by refine ZQ ?_; exact Kd.R_mono HO_9.out (fun _ hk => (And.intro (trivial) (hk)))) hg hat); have n1_ := Aside0.mk (hb); have n2_ := Aside0.mk (ho); clear HO_9; clear HB; clear HO_8; have HO_9 := n0_; have HB := n1_; have HO1324 := n2_; clear n0_ n1_ n2_; clear ho hb hg hat))
           go_roundg k1
           case measure => have := HK1.out; omega
           case rel => exact ⟨(y1322), (x9_1), (wrap64 (x10_1 + 1)), (by first | rfl | (simp; done) | (simp [*]; done)), H', ⟨by have := HK1.out; omega⟩, ⟨ZR HO1324⟩, ⟨by refine ZQ ?_; exact Kd.R_mono HO_9.out (fun _ hk => hk.2)⟩, ⟨ZB⟩⟩
          ·rw [if_neg c21] at H
           exact absurd H (by simp)
        ·rw [if_neg c19] at H
         exact absurd H (by simp)
       ·rw [if_neg c18] at H
        exact absurd H (by simp)
      ·rw [if_neg c16] at H
       have c16b0 : decide (0 < x10_1) = false := decide_eq_false c16
       clear c16
       by_cases c24 : x8_1.length < 17592186044416
       ·rw [if_pos c24] at H
        have LMc24 := Aside0.mk c24
        clear c24
        obtain ⟨y1325, hy1325⟩ : ∃ y_ : List Int, y_ = (x8_1 ++ [1]) := ⟨_, rfl⟩
        replace H : (spec_l02Named.l0 k1 a0 a1 a2 y1325 x9_1 (wrap64 (x10_1 + 1))) = some (r1, r2) := by first | (rw [hy1325]; with_reducible exact H) | (have H2_ := (Option.bind_some _ _).symm.trans H; rw [hy1325]; with_reducible exact H2_) | (have H2_ := (Option.bind_some _ _).symm.trans H; with_reducible exact H2_) | with_reducible exact H | (rw [hy1325]; exact H) | exact H
        have Ny1325 := Aside0.mk hy1325
        clear hy1325
        have H' := Aside0.mk H
        clear H
        go_wp2_with (first | ((with_reducible refine gate_builtin (b := .append) (xs := #[.tmp 83, .tmp 85]) rfl ?_); at_builtin; refine Kd.R_append (Kd.int .i64) (w0 := w) w.heap.size rfl (.tmp 83) (.tmp 85) 22 2 (.int .i64 0) 8 rfl Try.underlying22 info2 rfl (by decide) (by omega) u8 x8_1 1 [.int .i64 1] (fun k_ => some k_ ≠ (u9 : Value).ownBlock) (fun _ => False) rfl rfl ?aP (fun _ hk => hk.elim) ?aF ?aO ?aB ?aS ?aL ?_; (case aP => exact rfl); (case aB => exact ZB); (case aF => exact (fun k_ hk => Kd.fresh' (Kd.R_lt (ZR HO_9)) k_ hk)); (case aO => exact (ZR HO_8)); (case aS => exact (below_size ZB)); (case aL => have := LMc24.out; omega); intro v1326 w25 ho hb hg hat; rw [← Ny1325.out] at ho; have n0_ := Aside0.mk (Kd.R_after (ok := (fun _ => True)) (by refine ZQ ?_; exact Kd.R_mono HO_9.out (fun _ hk => (And.intro (trivial) (hk)))) hg hat); have n1_ := Aside0.mk (hb); have n2_ := Aside0.mk (ho); clear HO_9; clear HB; clear HO_8; have HO_9 := n0_; have HB := n1_; have HO1327 := n2_; clear n0_ n1_ n2_; clear ho hb hg hat))
        go_roundg k1
        case measure => have := HK1.out; omega
        case rel => exact ⟨(y1325), (x9_1), (wrap64 (x10_1 + 1)), (by first | rfl | (simp; done) | (simp [*]; done)), H', ⟨by have := HK1.out; omega⟩, ⟨ZR HO1327⟩, ⟨by refine ZQ ?_; exact Kd.R_mono HO_9.out (fun _ hk => hk.2)⟩, ⟨ZB⟩⟩
       ·rw [if_neg c24] at H
        exact absurd H (by simp)
     ·rw [if_neg c15] at H
      have c15b0 : (a0.toList == ([108, 97, 103, 117, 101, 114, 114, 101] : List UInt8)) = false := beq_eq_false_iff_ne.mpr c15
      have c15b1 : (a0.toList != ([108, 97, 103, 117, 101, 114, 114, 101] : List UInt8)) = true := bne_iff_ne.mpr c15
      by_cases c26 : a0.toList = ([104, 101, 114, 109, 105, 116, 101] : List UInt8)
      ·rw [if_pos c26] at H
       have c26b0 : (a0.toList == ([104, 101, 114, 109, 105, 116, 101] : List UInt8)) = true := beq_iff_eq.mpr c26
       have c26b1 : (a0.toList != ([104, 101, 114, 109, 105, 116, 101] : List UInt8)) = false := bne_eq_false_iff_eq.mpr c26
       clear c26
       by_cases c27 : x10_1 = 0
       ·rw [if_pos c27] at H
        have c27b0 : (x10_1 == 0) = true := beq_iff_eq.mpr c27
        have c27b1 : (x10_1 != 0) = false := bne_eq_false_iff_eq.mpr c27
        clear c27
        by_cases c28 : x8_1.length < 17592186044416
        ·rw [if_pos c28] at H
         have LMc28 := Aside0.mk c28
         clear c28
         obtain ⟨y1328, hy1328⟩ : ∃ y_ : List Int, y_ = (x8_1 ++ [1]) := ⟨_, rfl⟩
         replace H : (spec_l02Named.l0 k1 a0 a1 a2 y1328 x9_1 (wrap64 (x10_1 + 1))) = some (r1, r2) := by first | (rw [hy1328]; with_reducible exact H) | (have H2_ := (Option.bind_some _ _).symm.trans H; rw [hy1328]; with_reducible exact H2_) | (have H2_ := (Option.bind_some _ _).symm.trans H; with_reducible exact H2_) | with_reducible exact H | (rw [hy1328]; exact H) | exact H
         have Ny1328 := Aside0.mk hy1328
         clear hy1328
         have H' := Aside0.mk H
         clear H
         go_wp2_with (first | ((with_reducible refine gate_builtin (b := .append) (xs := #[.tmp 83, .tmp 85]) rfl ?_); at_builtin; refine Kd.R_append (Kd.int .i64) (w0 := w) w.heap.size rfl (.tmp 83) (.tmp 85) 22 2 (.int .i64 0) 8 rfl Try.underlying22 info2 rfl (by decide) (by omega) u8 x8_1 1 [.int .i64 1] (fun k_ => some k_ ≠ (u9 : Value).ownBlock) (fun _ => False) rfl rfl ?aP (fun _ hk => hk.elim) ?aF ?aO ?aB ?aS ?aL ?_; (case aP => exact rfl); (case aB => exact ZB); (case aF => exact (fun k_ hk => Kd.fresh' (Kd.R_lt (ZR HO_9)) k_ hk)); (case aO => exact (ZR HO_8)); (case aS => exact (below_size ZB)); (case aL => have := LMc28.out; omega); intro v1329 w29 ho hb hg hat; rw [← Ny1328.out] at ho; have n0_ := Aside0.mk (Kd.R_after (ok := (fun _ => True)) (by refine ZQ ?_; exact Kd.R_mono HO_9.out (fun _ hk => (And.intro (trivial) (hk)))) hg hat); have n1_ := Aside0.mk (hb); have n2_ := Aside0.mk (ho); clear HO_9; clear HB; clear HO_8; have HO_9 := n0_; have HB := n1_; have HO1330 := n2_; clear n0_ n1_ n2_; clear ho hb hg hat))
         go_roundg k1
         case measure => have := HK1.out; omega
         case rel => exact ⟨(y1328), (x9_1), (wrap64 (x10_1 + 1)), (by first | rfl | (simp; done) | (simp [*]; done)), H', ⟨by have := HK1.out; omega⟩, ⟨ZR HO1330⟩, ⟨by refine ZQ ?_; exact Kd.R_mono HO_9.out (fun _ hk => hk.2)⟩, ⟨ZB⟩⟩
        ·rw [if_neg c28] at H
         exact absurd H (by simp)
       ·rw [if_neg c27] at H
        have c27b0 : (x10_1 == 0) = false := beq_eq_false_iff_ne.mpr c27
        have c27b1 : (x10_1 != 0) = true := bne_iff_ne.mpr c27
        by_cases c30 : (Int.tmod x10_1 2) = 0
        ·rw [if_pos c30] at H
         have c30b0 : ((Int.tmod x10_1 2) == 0) = true := beq_iff_eq.mpr c30
         have c30b1 : ((Int.tmod x10_1 2) != 0) = false := bne_eq_false_iff_eq.mpr c30
         clear c30
         obtain ⟨ji31, hji31⟩ : ∃ j_ : Int, (wrap64 (x10_1 - 2)) = j_ := ⟨_, rfl⟩
         replace H : (if 0 ≤ (ji31) then (if (ji31) < (x8_1.length : Int) then (if a1 = 0 then (none) else (if x8_1.length < 17592186044416 then (spec_l02Named.l0 k1 a0 a1 a2 (x8_1 ++ [Int.tmod (wrap64 ((rd x8_1 (ji31)) * (wrap64 (x10_1 - 1)))) a1]) x9_1 (wrap64 (x10_1 + 1))) else (none))) else (none)) else (none)) = some (r1, r2) := by first | (rw [hji31] at H; exact H) | (simp only [hji31] at H ⊢; exact H)
         have hji31w : (IntKind.i64.wrap (x10_1 - 2)) = ji31 := (i64_w _).trans hji31
         by_cases c32 : 0 ≤ (ji31)
         ·rw [if_pos c32] at H
          have c32b0 : decide (0 ≤ (ji31)) = true := decide_eq_true c32
          clear c32
          by_cases c33 : (ji31) < (x8_1.length : Int)
          ·rw [if_pos c33] at H
           have c33b0 : decide ((ji31) < (x8_1.length : Int)) = true := decide_eq_true c33
           clear c33
           by_cases c34 : a1 = 0
           ·rw [if_pos c34] at H
            exact absurd H (by simp)
           ·rw [if_neg c34] at H
            have c34b0 : (a1 == 0) = false := beq_eq_false_iff_ne.mpr c34
            have c34b1 : (a1 != 0) = true := bne_iff_ne.mpr c34
            by_cases c35 : x8_1.length < 17592186044416
            ·rw [if_pos c35] at H
             have LMc35 := Aside0.mk c35
             clear c35
             obtain ⟨y1332, hy1332⟩ : ∃ y_ : List Int, y_ = (x8_1 ++ [Int.tmod (wrap64 ((rd x8_1 (ji31)) * (wrap64 (x10_1 - 1)))) a1]) := ⟨_, rfl⟩
             replace H : (spec_l02Named.l0 k1 a0 a1 a2 y1332 x9_1 (wrap64 (x10_1 + 1))) = some (r1, r2) := by first | (rw [hy1332]; with_reducible exact H) | (have H2_ := (Option.bind_some _ _).symm.trans H; rw [hy1332]; with_reducible exact H2_) | (have H2_ := (Option.bind_some _ _).symm.trans H; with_reducible exact H2_) | with_reducible exact H | (rw [hy1332]; exact H) | exact H
             have Ny1332 := Aside0.mk hy1332
             clear hy1332
             have H' := Aside0.mk H
             clear H
             obtain ⟨Ao36, co36, eo36⟩ := Kd.R_slice HO_8.out
             subst eo36
             have p1331 : 0 ≤ ((ji31) : Int) := of_decide_eq_true (by first | (with_reducible assumption) | assumption)
             have q1331 : (ji31) < (x8_1.length : Int) := of_decide_eq_true (by first | (with_reducible assumption) | assumption)
             obtain ⟨ad1331, e1331, hx1331_0⟩ := Kd.at_int (Kd.R_reads' HO_8.out).2.2 (ji31) p1331 q1331
             cases e1331
             replace p1331 := eq_true p1331
             replace q1331 := eq_true q1331
             go_wp2_with (first | ((with_reducible refine gate_builtin (b := .append) (xs := #[.tmp 83, .tmp 85]) rfl ?_); at_builtin; refine Kd.R_append (Kd.int .i64) (w0 := w) w.heap.size rfl (.tmp 83) (.tmp 85) 22 2 (.int .i64 0) 8 rfl Try.underlying22 info2 rfl (by decide) (by omega) (.slice (some ad1331) x8_1.length co36) x8_1 (Int.tmod (wrap64 ((rd x8_1 (ji31)) * (wrap64 (x10_1 - 1)))) a1) [.int .i64 (Int.tmod (wrap64 ((rd x8_1 (ji31)) * (wrap64 (x10_1 - 1)))) a1)] (fun k_ => some k_ ≠ (u9 : Value).ownBlock) (fun _ => False) rfl rfl ?aP (fun _ hk => hk.elim) ?aF ?aO ?aB ?aS ?aL ?_; (case aP => exact rfl); (case aB => exact ZB); (case aF => exact (fun k_ hk => Kd.fresh' (Kd.R_lt (ZR HO_9)) k_ hk)); (case aO => exact (ZR HO_8)); (case aS => exact (below_size ZB)); (case aL => have := LMc35.out; omega); intro v1333 w37 ho hb hg hat; rw [← Ny1332.out] at ho; have n0_ := Aside0.mk (Kd.R_after (ok := (fun _ => True)) (by refine ZQ ?_; exact Kd.R_mono HO_9.out (fun _ hk => (And.intro (trivial) (hk)))) hg hat); have n1_ := Aside0.mk (hb); have n2_ := Aside0.mk (ho); clear HO_9; clear HB; clear HO_8; have HO_9 := n0_; have HB := n1_; have HO1334 := n2_; clear n0_ n1_ n2_; clear ho hb hg hat))
             go_roundg k1
             case measure => have := HK1.out; omega
             case rel => exact ⟨(y1332), (x9_1), (wrap64 (x10_1 + 1)), (by first | rfl | (simp; done) | (simp [*]; done)), H', ⟨by have := HK1.out; omega⟩, ⟨ZR HO1334⟩, ⟨by refine ZQ ?_; exact Kd.R_mono HO_9.out (fun _ hk => hk.2)⟩, ⟨ZB⟩⟩
            ·rw [if_neg c35] at H
             exact absurd H (by simp)
          ·rw [if_neg c33] at H
           exact absurd H (by simp)
         ·rw [if_neg c32] at H
          exact absurd H (by simp)
        ·rw [if_neg c30] at H
         have c30b0 : ((Int.tmod x10_1 2) == 0) = false := beq_eq_false_iff_ne.mpr c30
         have c30b1 : ((Int.tmod x10_1 2) != 0) = true := bne_iff_ne.mpr c30
         by_cases c38 : x8_1.length < 17592186044416
         ·rw [if_pos c38] at H
          have LMc38 := Aside0.mk c38
          clear c38
          obtain ⟨y1335, hy1335⟩ : ∃ y_ : List Int, y_ = (x8_1 ++ [0]) := ⟨_, rfl⟩
          replace H : (spec_l02Named.l0 k1 a0 a1 a2 y1335 x9_1 (wrap64 (x10_1 + 1))) = some (r1, r2) := by first | (rw [hy1335]; with_reducible exact H) | (have H2_ := (Option.bind_some _ _).symm.trans H; rw [hy1335]; with_reducible exact H2_) | (have H2_ := (Option.bind_some _ _).symm.trans H; with_reducible exact H2_) | with_reducible exact H | (rw [hy1335]; exact H) | exact H
          have Ny1335 := Aside0.mk hy1335
          clear hy1335
          have H' := Aside0.mk H
          clear H
          go_wp2_with (first | ((with_reducible refine gate_builtin (b := .append) (xs := #[.tmp 83, .tmp 85]) rfl ?_); at_builtin; refine Kd.R_append (Kd.int .i64) (w0 := w) w.heap.size rfl (.tmp 83) (.tmp 85) 22 2 (.int .i64 0) 8 rfl Try.underlying22 info2 rfl (by decide) (by omega) u8 x8_1 0 [.int .i64 0] (fun k_ => some k_ ≠ (u9 : Value).ownBlock) (fun _ => False) rfl rfl ?aP (fun _ hk => hk.elim) ?aF ?aO ?aB ?aS ?aL ?_; (case aP => exact rfl); (case aB => exact ZB); (case aF => exact (fun k_ hk => Kd.fresh' (Kd.R_lt (ZR HO_9)) k_ hk)); (case aO => exact (ZR HO_8)); (case aS => exact (below_size ZB)); (case aL => have := LMc38.out; omega); intro v1336 w39 ho hb hg hat; rw [← Ny1335.out] at ho; have n0_ := Aside0.mk (Kd.R_after (ok := (fun _ => True)) (by refine ZQ ?_; exact Kd.R_mono HO_9.out (fun _ hk => (And.intro (trivial) (hk)))) hg hat); have n1_ := Aside0.mk (hb); have n2_ := Aside0.mk (ho); clear HO_9; clear HB; clear HO_8; have HO_9 := n0_; have HB := n1_; have HO1337 := n2_; clear n0_ n1_ n2_; clear ho hb hg hat))
          go_roundg k1
          case measure => have := HK1.out; omega
          case rel => exact ⟨(y1335), (x9_1), (wrap64 (x10_1 + 1)), (by first | rfl | (simp; done) | (simp [*]; done)), H', ⟨by have := HK1.out; omega⟩, ⟨ZR HO1337⟩, ⟨by refine ZQ ?_; exact Kd.R_mono HO_9.out (fun _ hk => hk.2)⟩, ⟨ZB⟩⟩
         ·rw [if_neg c38] at H
          exact absurd H (by simp)
      ·rw [if_neg c26] at H
       have c26b0 : (a0.toList == ([104, 101, 114, 109, 105, 116, 101] : List UInt8)) = false := beq_eq_false_iff_ne.mpr c26
       have c26b1 : (a0.toList != ([104, 101, 114, 109, 105, 116, 101] : List UInt8)) = true := bne_iff_ne.mpr c26
       by_cases c40 : a0.toList = ([99, 97, 116, 97, 108, 97, 110] : List UInt8)
       ·rw [if_pos c40] at H
        have c40b0 : (a0.toList == ([99, 97, 116, 97, 108, 97, 110] : List UInt8)) = true := beq_iff_eq.mpr c40
        have c40b1 : (a0.toList != ([99, 97, 116, 97, 108, 97, 110] : List UInt8)) = false := bne_eq_false_iff_eq.mpr c40
        clear c40
        replace H := Option.bind_eq_some_iff.mp H
        obtain ⟨t1338, A410, H⟩ := H
        replace H : ((spec_l02Sum.f k1 a1 x10_1 x8_1 t1338).bind fun t1341 => (if x8_1.length < 17592186044416 then (spec_l02Named.l0 k1 a0 a1 a2 (x8_1 ++ [t1341]) x9_1 (wrap64 (x10_1 + 1))) else (none))) = some (r1, r2) := H
        have A41 := Aside0.mk A410
        clear A410
        replace H := Option.bind_eq_some_iff.mp H
        obtain ⟨t1341, A420, H⟩ := H
        replace H : (if x8_1.length < 17592186044416 then (spec_l02Named.l0 k1 a0 a1 a2 (x8_1 ++ [t1341]) x9_1 (wrap64 (x10_1 + 1))) else (none)) = some (r1, r2) := H
        have A42 := Aside0.mk A420
        clear A420
        by_cases c43 : x8_1.length < 17592186044416
        ·rw [if_pos c43] at H
         have LMc43 := Aside0.mk c43
         clear c43
         obtain ⟨y1342, hy1342⟩ : ∃ y_ : List Int, y_ = (x8_1 ++ [t1341]) := ⟨_, rfl⟩
         replace H : (spec_l02Named.l0 k1 a0 a1 a2 y1342 x9_1 (wrap64 (x10_1 + 1))) = some (r1, r2) := by first | (rw [hy1342]; with_reducible exact H) | (have H2_ := (Option.bind_some _ _).symm.trans H; rw [hy1342]; with_reducible exact H2_) | (have H2_ := (Option.bind_some _ _).symm.trans H; with_reducible exact H2_) | with_reducible exact H | (rw [hy1342]; exact H) | exact H
         have Ny1342 := Aside0.mk hy1342
         clear hy1342
         have H' := Aside0.mk H
         clear H
         obtain ⟨Ao44, co44, eo44⟩ := Kd.R_slice HO_8.out
         subst eo44
         go_wp2_with (first | ((with_reducible refine gate_callee (f := 137) rfl ?_); refine goesL_ (some 81) rfl rfl Try.func137 (by kernel_rfl) rfl #[.slice Ao44 x8_1.length co44] rfl ZA ?_; (with_reducible refine (spec_l02Back.calls k1 _ _ x8_1 t1338 _ ?side1 ?side2 A41.out).mono ?_); (case side1 => repeat (first | exact (Kd.R_reads' HO_8.out).2.2 | (with_reducible refine Kd.C_alloc ?_ _) | (with_reducible refine Kd.C_drewN ?_ _) | (with_reducible refine Kd.C_drew ?_))); (case side2 => exact (Kd.R_reads' HO_8.out).2.1); rintro e w45 ⟨v1339, rfl, ho0, hb⟩; refine ⟨_, rfl, ?_⟩; have n0_ := Aside0.mk (Kd.R_elder' (ZR HO_8) (Kd.R_base ho0) hb); have n1_ := Aside0.mk (Kd.R_elder' (ZR HO_9) (Kd.R_base ho0) hb); have n2_ := Aside0.mk (Kd.R_lower (Kd.R_new' (Kd.R_new' ho0 (Kd.R_lt (ZR HO_8))) (Kd.R_lt (ZR HO_9))) (below_size ZB)); have n3_ := Aside0.mk (below_step ZB hb); clear HO_8; clear HO_9; clear HB; have HO_8 := n0_; have HO_9 := n1_; have HO1340 := n2_; have HB := n3_; clear n0_ n1_ n2_ n3_; (try clear hb); (try clear hb2); (try clear hk); (try clear hi); (try clear ho0); obtain ⟨Ao46, co46, eo46⟩ := Kd.R_slice HO1340.out; subst eo46) | ((with_reducible refine gate_callee (f := 136) rfl ?_); refine goesL_ (some 82) rfl rfl Try.func136 (by kernel_rfl) rfl #[.int .i64 a1, .int .i64 x10_1, .slice Ao44 x8_1.length co44, .slice Ao46 t1338.length co46] rfl ZA ?_; (with_reducible refine (spec_l02Sum.calls k1 a1 x10_1 _ _ x8_1 _ _ t1338 t1341 _ ?side1 ?side2 ?side3 ?side4 A42.out).mono ?_); (case side1 => repeat (first | exact (Kd.R_reads' HO_8.out).2.2 | (with_reducible refine Kd.C_alloc ?_ _) | (with_reducible refine Kd.C_drewN ?_ _) | (with_reducible refine Kd.C_drew ?_))); (case side2 => exact (Kd.R_reads' HO_8.out).2.1); (case side3 => repeat (first | exact (Kd.R_reads' HO1340.out).2.2 | (with_reducible refine Kd.C_alloc ?_ _) | (with_reducible refine Kd.C_drewN ?_ _) | (with_reducible refine Kd.C_drew ?_))); (case side4 => exact (Kd.R_reads' HO1340.out).2.1); rintro e w' ⟨rfl, ⟨nd, rfl⟩⟩; refine ⟨_, rfl, ?_⟩) | ((with_reducible refine gate_builtin (b := .append) (xs := #[.tmp 83, .tmp 85]) rfl ?_); at_builtin; refine Kd.R_append (Kd.int .i64) (w0 := w) w.heap.size rfl (.tmp 83) (.tmp 85) 22 2 (.int .i64 0) 8 rfl Try.underlying22 info2 rfl (by decide) (by omega) (.slice Ao44 x8_1.length co44) x8_1 t1341 [.int .i64 t1341] (fun k_ => some k_ ≠ (u9 : Value).ownBlock ∧ some k_ ≠ (.slice Ao46 t1338.length co46 : Value).ownBlock) (fun _ => False) rfl rfl ?aP (fun _ hk => hk.elim) ?aF ?aO ?aB ?aS ?aL ?_; (case aP => exact rfl); (case aB => exact ZB); (case aF => exact (fun k_ hk => ⟨Kd.fresh' (Kd.R_lt (ZR HO_9)) k_ hk, Kd.fresh' (Kd.R_lt (ZR HO1340)) k_ hk⟩)); (case aO => exact (ZR HO_8)); (case aS => exact (below_size ZB)); (case aL => have := LMc43.out; omega); intro v1343 w47 ho hb hg hat; rw [← Ny1342.out] at ho; have n0_ := Aside0.mk (Kd.R_after (ok := (fun k_ => some k_ ≠ (.slice Ao46 t1338.length co46 : Value).ownBlock)) (by refine ZQ ?_; exact Kd.R_mono HO_9.out (fun _ hk => (And.intro (hk.2) (hk.1)))) hg hat); have n1_ := Aside0.mk (Kd.R_after (ok := (fun k_ => some k_ ≠ (u9 : Value).ownBlock)) (by refine ZQ ?_; exact Kd.R_mono HO1340.out (fun _ hk => (And.intro (hk.2) (hk.1.2)))) hg hat); have n2_ := Aside0.mk (hb); have n3_ := Aside0.mk (ho); clear HO_9; clear HO1340; clear HB; clear HO_8; have HO_9 := n0_; have HO1340 := n1_; have HB := n2_; have HO1344 := n3_; clear n0_ n1_ n2_ n3_; clear ho hb hg hat))
         go_roundg k1
         case measure => have := HK1.out; omega
         case rel => exact ⟨(y1342), (x9_1), (wrap64 (x10_1 + 1)), (by first | rfl | (simp; done) | (simp [*]; done)), H', ⟨by have := HK1.out; omega⟩, ⟨by refine ZQ ?_; exact Kd.R_mono HO1344.out (fun _ hk => hk.1)⟩, ⟨by refine ZQ ?_; exact Kd.R_mono HO_9.out (fun _ hk => hk.2)⟩, ⟨ZB⟩⟩
        ·rw [if_neg c43] at H
         exact absurd H (by simp)
       ·rw [if_neg c40] at H
        have c40b0 : (a0.toList == ([99, 97, 116, 97, 108, 97, 110] : List UInt8)) = false := beq_eq_false_iff_ne.mpr c40
        have c40b1 : (a0.toList != ([99, 97, 116, 97, 108, 97, 110] : List UInt8)) = true := bne_iff_ne.mpr c40
        replace H := Option.bind_eq_some_iff.mp H
        obtain ⟨t1345, A480, H⟩ := H
        replace H : (if x10_1 > 0 then ((spec_l02Pascal.f k1 a1 x9_1).bind fun t1346 => (if x8_1.length < 17592186044416 then (spec_l02Named.l0 k1 a0 a1 a2 (x8_1 ++ [t1345]) t1346 (wrap64 (x10_1 + 1))) else (none))) else (if x8_1.length < 17592186044416 then (spec_l02Named.l0 k1 a0 a1 a2 (x8_1 ++ [t1345]) x9_1 (wrap64 (x10_1 + 1))) else (none))) = some (r1, r2) := H
        have A48 := Aside0.mk A480
        clear A480
        by_cases c49 : x10_1 > 0
        ·rw [if_pos c49] at H
         have c49b0 : decide (0 < x10_1) = true := decide_eq_true c49
         clear c49
         replace H := Option.bind_eq_some_iff.mp H
         obtain ⟨t1346, A500, H⟩ := H
         replace H : (if x8_1.length < 17592186044416 then (spec_l02Named.l0 k1 a0 a1 a2 (x8_1 ++ [t1345]) t1346 (wrap64 (x10_1 + 1))) else (none)) = some (r1, r2) := H
         have A50 := Aside0.mk A500
         clear A500
         by_cases c51 : x8_1.length < 17592186044416
         ·rw [if_pos c51] at H
          have LMc51 := Aside0.mk c51
          clear c51
          obtain ⟨y1349, hy1349⟩ : ∃ y_ : List Int, y_ = (x8_1 ++ [t1345]) := ⟨_, rfl⟩
          replace H : (spec_l02Named.l0 k1 a0 a1 a2 y1349 t1346 (wrap64 (x10_1 + 1))) = some (r1, r2) := by first | (rw [hy1349]; with_reducible exact H) | (have H2_ := (Option.bind_some _ _).symm.trans H; rw [hy1349]; with_reducible exact H2_) | (have H2_ := (Option.bind_some _ _).symm.trans H; with_reducible exact H2_) | with_reducible exact H | (rw [hy1349]; exact H) | exact H
          have Ny1349 := Aside0.mk hy1349
          clear hy1349
          have H' := Aside0.mk H
          clear H
          obtain ⟨Ao52, co52, eo52⟩ := Kd.R_slice HO_8.out
          subst eo52
          obtain ⟨Ao53, co53, eo53⟩ := Kd.R_slice HO_9.out
          subst eo53
          go_wp2_with (first | ((with_reducible refine gate_callee (f := 136) rfl ?_); refine goesL_ (some 24) rfl rfl Try.func136 (by kernel_rfl) rfl #[.int .i64 a1, .int .i64 x10_1, .slice Ao52 x8_1.length co52, .slice Ao53 x9_1.length co53] rfl ZA ?_; (with_reducible refine (spec_l02Sum.calls k1 a1 x10_1 _ _ x8_1 _ _ x9_1 t1345 _ ?side1 ?side2 ?side3 ?side4 A48.out).mono ?_); (case side1 => repeat (first | exact (Kd.R_reads' HO_8.out).2.2 | (with_reducible refine Kd.C_alloc ?_ _) | (with_reducible refine Kd.C_drewN ?_ _) | (with_reducible refine Kd.C_drew ?_))); (case side2 => exact (Kd.R_reads' HO_8.out).2.1); (case side3 => repeat (first | exact (Kd.R_reads' HO_9.out).2.2 | (with_reducible refine Kd.C_alloc ?_ _) | (with_reducible refine Kd.C_drewN ?_ _) | (with_reducible refine Kd.C_drew ?_))); (case side4 => exact (Kd.R_reads' HO_9.out).2.1); rintro e w' ⟨rfl, ⟨nd, rfl⟩⟩; refine ⟨_, rfl, ?_⟩) | ((with_reducible refine gate_callee (f := 138) rfl ?_); refine goesL_ (some 29) rfl rfl Try.func138 (by kernel_rfl) rfl #[.int .i64 a1, .slice Ao53 x9_1.length co53] rfl ZA ?_; (with_reducible refine (spec_l02Pascal.calls k1 a1 _ _ x9_1 t1346 _ ?side1 ?side2 A50.out).mono ?_); (case side1 => repeat (first | exact (Kd.R_reads' HO_9.out).2.2 | (with_reducible refine Kd.C_alloc ?_ _) | (with_reducible refine Kd.C_drewN ?_ _) | (with_reducible refine Kd.C_drew ?_))); (case side2 => exact (Kd.R_reads' HO_9.out).2.1); rintro e w54 ⟨v1347, rfl, ho0, hb⟩; refine ⟨_, rfl, ?_⟩; have n0_ := Aside0.mk (Kd.R_elder' (ZR HO_8) (Kd.R_base ho0) hb); have n1_ := Aside0.mk (Kd.R_elder' (ZR HO_9) (Kd.R_base ho0) hb); have n2_ := Aside0.mk (Kd.R_lower (Kd.R_new' (Kd.R_new' ho0 (Kd.R_lt (ZR HO_8))) (Kd.R_lt (ZR HO_9))) (below_size ZB)); have n3_ := Aside0.mk (below_step ZB hb); clear HO_8; clear HO_9; clear HB; have HO_8 := n0_; have HO_9 := n1_; have HO1348 := n2_; have HB := n3_; clear n0_ n1_ n2_ n3_; (try clear hb); (try clear hb2); (try clear hk); (try clear hi); (try clear ho0)) | ((with_reducible refine gate_builtin (b := .append) (xs := #[.tmp 83, .tmp 85]) rfl ?_); at_builtin; refine Kd.R_append (Kd.int .i64) (w0 := w) w.heap.size rfl (.tmp 83) (.tmp 85) 22 2 (.int .i64 0) 8 rfl Try.underlying22 info2 rfl (by decide) (by omega) (.slice Ao52 x8_1.length co52) x8_1 t1345 [.int .i64 t1345] (fun k_ => some k_ ≠ (.slice Ao53 x9_1.length co53 : Value).ownBlock ∧ some k_ ≠ (v1347 : Value).ownBlock) (fun _ => False) rfl rfl ?aP (fun _ hk => hk.elim) ?aF ?aO ?aB ?aS ?aL ?_; (case aP => exact rfl); (case aB => exact ZB); (case aF => exact (fun k_ hk => ⟨Kd.fresh' (Kd.R_lt (ZR HO_9)) k_ hk, Kd.fresh' (Kd.R_lt (ZR HO1348)) k_ hk⟩)); (case aO => exact (ZR HO_8)); (case aS => exact (below_size ZB)); (case aL => have := LMc51.out; omega); intro v1350 w55 ho hb hg hat; rw [← Ny1349.out] at ho; have n0_ := Aside0.mk (Kd.R_after (ok := (fun k_ => some k_ ≠ (v1347 : Value).ownBlock)) (by refine ZQ ?_; exact Kd.R_mono HO_9.out (fun _ hk => (And.intro (hk.2) (hk.1)))) hg hat); have n1_ := Aside0.mk (Kd.R_after (ok := (fun k_ => some k_ ≠ (.slice Ao53 x9_1.length co53 : Value).ownBlock)) (by refine ZQ ?_; exact Kd.R_mono HO1348.out (fun _ hk => (And.intro (hk.2) (hk.1.2)))) hg hat); have n2_ := Aside0.mk (hb); have n3_ := Aside0.mk (ho); clear HO_9; clear HO1348; clear HB; clear HO_8; have HO_9 := n0_; have HO1348 := n1_; have HB := n2_; have HO1351 := n3_; clear n0_ n1_ n2_ n3_; clear ho hb hg hat))
          go_roundg k1
          case measure => have := HK1.out; omega
          case rel => exact ⟨(y1349), (t1346), (wrap64 (x10_1 + 1)), (by first | rfl | (simp; done) | (simp [*]; done)), H', ⟨by have := HK1.out; omega⟩, ⟨by refine ZQ ?_; exact Kd.R_mono HO1351.out (fun _ hk => hk.2)⟩, ⟨by refine ZQ ?_; exact Kd.R_mono HO1348.out (fun _ hk => hk.2)⟩, ⟨ZB⟩⟩
         ·rw [if_neg c51] at H
          exact absurd H (by simp)
        ·rw [if_neg c49] at H
         have c49b0 : decide (0 < x10_1) = false := decide_eq_false c49
         clear c49
         by_cases c56 : x8_1.length < 17592186044416
         ·rw [if_pos c56] at H
          have LMc56 := Aside0.mk c56
          clear c56
          obtain ⟨y1352, hy1352⟩ : ∃ y_ : List Int, y_ = (x8_1 ++ [t1345]) := ⟨_, rfl⟩
          replace H : (spec_l02Named.l0 k1 a0 a1 a2 y1352 x9_1 (wrap64 (x10_1 + 1))) = some (r1, r2) := by first | (rw [hy1352]; with_reducible exact H) | (have H2_ := (Option.bind_some _ _).symm.trans H; rw [hy1352]; with_reducible exact H2_) | (have H2_ := (Option.bind_some _ _).symm.trans H; with_reducible exact H2_) | with_reducible exact H | (rw [hy1352]; exact H) | exact H
          have Ny1352 := Aside0.mk hy1352
          clear hy1352
          have H' := Aside0.mk H
          clear H
          obtain ⟨Ao57, co57, eo57⟩ := Kd.R_slice HO_8.out
          subst eo57
          obtain ⟨Ao58, co58, eo58⟩ := Kd.R_slice HO_9.out
          subst eo58
          go_wp2_with (first | ((with_reducible refine gate_callee (f := 136) rfl ?_); refine goesL_ (some 24) rfl rfl Try.func136 (by kernel_rfl) rfl #[.int .i64 a1, .int .i64 x10_1, .slice Ao57 x8_1.length co57, .slice Ao58 x9_1.length co58] rfl ZA ?_; (with_reducible refine (spec_l02Sum.calls k1 a1 x10_1 _ _ x8_1 _ _ x9_1 t1345 _ ?side1 ?side2 ?side3 ?side4 A48.out).mono ?_); (case side1 => repeat (first | exact (Kd.R_reads' HO_8.out).2.2 | (with_reducible refine Kd.C_alloc ?_ _) | (with_reducible refine Kd.C_drewN ?_ _) | (with_reducible refine Kd.C_drew ?_))); (case side2 => exact (Kd.R_reads' HO_8.out).2.1); (case side3 => repeat (first | exact (Kd.R_reads' HO_9.out).2.2 | (with_reducible refine Kd.C_alloc ?_ _) | (with_reducible refine Kd.C_drewN ?_ _) | (with_reducible refine Kd.C_drew ?_))); (case side4 => exact (Kd.R_reads' HO_9.out).2.1); rintro e w' ⟨rfl, ⟨nd, rfl⟩⟩; refine ⟨_, rfl, ?_⟩) | ((with_reducible refine gate_builtin (b := .append) (xs := #[.tmp 83, .tmp 85]) rfl ?_); at_builtin; refine Kd.R_append (Kd.int .i64) (w0 := w) w.heap.size rfl (.tmp 83) (.tmp 85) 22 2 (.int .i64 0) 8 rfl Try.underlying22 info2 rfl (by decide) (by omega) (.slice Ao57 x8_1.length co57) x8_1 t1345 [.int .i64 t1345] (fun k_ => some k_ ≠ (.slice Ao58 x9_1.length co58 : Value).ownBlock) (fun _ => False) rfl rfl ?aP (fun _ hk => hk.elim) ?aF ?aO ?aB ?aS ?aL ?_; (case aP => exact rfl); (case aB => exact ZB); (case aF => exact (fun k_ hk => Kd.fresh' (Kd.R_lt (ZR HO_9)) k_ hk)); (case aO => exact (ZR HO_8)); (case aS => exact (below_size ZB)); (case aL => have := LMc56.out; omega); intro v1353 w59 ho hb hg hat; rw [← Ny1352.out] at ho; have n0_ := Aside0.mk (Kd.R_after (ok := (fun _ => True)) (by refine ZQ ?_; exact Kd.R_mono HO_9.out (fun _ hk => (And.intro (trivial) (hk)))) hg hat); have n1_ := Aside0.mk (hb); have n2_ := Aside0.mk (ho); clear HO_9; clear HB; clear HO_8; have HO_9 := n0_; have HB := n1_; have HO1354 := n2_; clear n0_ n1_ n2_; clear ho hb hg hat))
          go_roundg k1
          case measure => have := HK1.out; omega
          case rel => exact ⟨(y1352), (x9_1), (wrap64 (x10_1 + 1)), (by first | rfl | (simp; done) | (simp [*]; done)), H', ⟨by have := HK1.out; omega⟩, ⟨ZR HO1354⟩, ⟨by refine ZQ ?_; exact Kd.R_mono HO_9.out (fun _ hk => hk.2)⟩, ⟨ZB⟩⟩
         ·rw [if_neg c56] at H
          exact absurd H (by simp)
   ·rw [if_neg c8] at H
    have c8b0 : decide (x10_1 < a2) = false := decide_eq_false c8
    clear c8
    simp only [Option.some.injEq, Prod.mk.injEq] at H
    obtain ⟨rfl, rfl⟩ := H
    go_wp2
    go_ret2
    exact ⟨_, by first | rfl | (simp [errW_none, errW_some] <;> rfl) | (simp [*, errW_none, errW_some] <;> rfl), by refine ZQ ?_; exact Kd.R_mono HO_8.out (fun _ hk => trivial), ZB⟩

end Go.Proofs.Ytaclapojgdekpaa.X
