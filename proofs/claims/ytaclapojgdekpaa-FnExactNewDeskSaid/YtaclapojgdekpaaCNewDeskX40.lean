/- Contracts of functions that the law reaches, printed by a program of this session; Lean checks them. -/
import Derived.Test.YtaclapojgdekpaaCNewDeskX0
import Derived.Test.YtaclapojgdekpaaCNewDeskX1
import Derived.Test.YtaclapojgdekpaaCNewDeskX39
import Derived.Test.YtaclapojgdekpaaCNewDeskX8
import Derived.Test.YtaclapojgdekpaaCNewDeskXZ
namespace Go.Proofs.Ytaclapojgdekpaa.X
open Go.RowKit Go.Proofs.YtaclapojgdekpaaW.PrintWords Go.Proofs.YtaclapojgdekpaaW.PrintLast Go.Proofs.YtaclapojgdekpaaW.PrintMore
attribute [local go_sem] max2_int min2_int max_two min_two max_three min_three max_four min_four   -- for this text's walks alone
set_option linter.unusedVariables false
set_option linter.unusedSimpArgs false

/-! ### spec_NamedJacobi: function 124 -/
mutual
def spec_NamedJacobi.j0 : Nat → ByteArray → Int → Int → Bool → Option (Int × List Int × List Int × Int)
 | 0, _, _, _, _ => none
 | k + 1, x0, x1, x2, x12 => if x12 = true then (some (0, ([] : List Int), ([] : List Int), 2)) else ((spec_l10Known.f x0).bind fun t1366 => (if t1366 = true then (spec_NamedJacobi.l0 k x0 x1 x2 0 x1 (([] : List Int)) (([] : List Int))) else (some (0, ([] : List Int), ([] : List Int), 4))))
def spec_NamedJacobi.l0 : Nat → ByteArray → Int → Int → Int → Int → List Int → List Int → Option (Int × List Int × List Int × Int)
 | 0, _, _, _, _, _, _, _ => none
 | k + 1, x0, x1, x2, x9, x1374000, x1374001, x1374002 => if x9 < x2 then ((spec_l10Beta.f k x0 x9).bind fun bt1374 => (if x1 = 0 then (none) else (if (Int.tmod bt1374.1 x1) = 0 then (spec_NamedJacobi.j2 k x0 x1 x2 x9 bt1374.1 bt1374.2 true x1374000 x1374001 x1374002) else (spec_NamedJacobi.j2 k x0 x1 x2 x9 bt1374.1 bt1374.2 ((Int.tmod bt1374.2 x1) == 0) x1374000 x1374001 x1374002)))) else (some (x1374000, x1374001, x1374002, 0))
def spec_NamedJacobi.j2 : Nat → ByteArray → Int → Int → Int → Int → Int → Bool → Int → List Int → List Int → Option (Int × List Int × List Int × Int)
 | 0, _, _, _, _, _, _, _, _, _, _ => none
 | k + 1, x0, x1, x2, x9, x10, x11, x51, x1374000, x1374001, x1374002 => if x51 = true then (some (0, ([] : List Int), ([] : List Int), 5)) else ((spec_l10Alpha.f x0 x9).bind fun t1376 => (if x1 = 0 then (none) else (if x1374001.length < 17592186044416 then ((spec_l01Inverse.f k x1 (Int.tmod x11 x1)).bind fun t1380 => (if x1374002.length < 17592186044416 then (spec_NamedJacobi.l0 k x0 x1 x2 (wrap64 (x9 + 1)) x1374000 (x1374001 ++ [Int.tmod t1376 x1]) (x1374002 ++ [Int.tmod (wrap64 ((Int.tmod x10 x1) * t1380)) x1])) else (none))) else (none))))
end
def spec_NamedJacobi.f (k : Nat) (a0 : ByteArray) (a1 : Int) (a2 : Int) : Option (Int × List Int × List Int × Int) := (spec_l01Prime.f k a1).bind fun t1364 => (if t1364 = true then ((spec_l01In.f a2 1 12).bind fun t1365 => (spec_NamedJacobi.j0 k a0 a1 a2 (!t1365))) else (spec_NamedJacobi.j0 k a0 a1 a2 true))
theorem spec_NamedJacobi.mono_l : ∀ k, (∀ y0 y1 y2 y3, LeO (spec_NamedJacobi.j0 k y0 y1 y2 y3) (spec_NamedJacobi.j0 (k + 1) y0 y1 y2 y3)) ∧ (∀ y0 y1 y2 y3 y4 y5 y6, LeO (spec_NamedJacobi.l0 k y0 y1 y2 y3 y4 y5 y6) (spec_NamedJacobi.l0 (k + 1) y0 y1 y2 y3 y4 y5 y6)) ∧ (∀ y0 y1 y2 y3 y4 y5 y6 y7 y8 y9, LeO (spec_NamedJacobi.j2 k y0 y1 y2 y3 y4 y5 y6 y7 y8 y9) (spec_NamedJacobi.j2 (k + 1) y0 y1 y2 y3 y4 y5 y6 y7 y8 y9))
 | 0 => ⟨fun _ _ _ _ r h => by simp [spec_NamedJacobi.j0] at h, fun _ _ _ _ _ _ _ r h => by simp [spec_NamedJacobi.l0] at h, fun _ _ _ _ _ _ _ _ _ _ r h => by simp [spec_NamedJacobi.j2] at h⟩
 | k + 1 => by
  obtain ⟨ih0, ih1, ih2⟩ := spec_NamedJacobi.mono_l k
  refine ⟨?_, ?_, ?_⟩
  ·intro y0 y1 y2 y3
   unfold spec_NamedJacobi.j0
   repeat' first
   | (with_reducible exact ih0 _ _ _ _)
   | (with_reducible exact ih1 _ _ _ _ _ _ _)
   | (with_reducible exact ih2 _ _ _ _ _ _ _ _ _ _)
   | (with_reducible exact spec_l01Inverse.mono _ _ _)
   | (with_reducible exact spec_l01Prime.mono _ _)
   | (with_reducible exact spec_l10Beta.mono _ _ _)
   | (with_reducible exact LeO.refl _)
   | (with_reducible exact LeO.none _)
   | (with_reducible refine LeO.ite ?_ ?_)
   | (with_reducible refine LeO.bind ?_ (fun _ => ?_))
   | exact ih0 _ _ _ _
   | exact ih1 _ _ _ _ _ _ _
   | exact ih2 _ _ _ _ _ _ _ _ _ _
   | exact spec_l01Inverse.mono _ _ _
   | exact spec_l01Prime.mono _ _
   | exact spec_l10Beta.mono _ _ _
   | exact LeO.none _
   | refine LeO.ite ?_ ?_
   | refine LeO.bind ?_ (fun _ => ?_)
  ·intro y0 y1 y2 y3 y4 y5 y6
   unfold spec_NamedJacobi.l0
   repeat' first
   | (with_reducible exact ih0 _ _ _ _)
   | (with_reducible exact ih1 _ _ _ _ _ _ _)
   | (with_reducible exact ih2 _ _ _ _ _ _ _ _ _ _)
   | (with_reducible exact spec_l01Inverse.mono _ _ _)
   | (with_reducible exact spec_l01Prime.mono _ _)
   | (with_reducible exact spec_l10Beta.mono _ _ _)
   | (with_reducible exact LeO.refl _)
   | (with_reducible exact LeO.none _)
   | (with_reducible refine LeO.ite ?_ ?_)
   | (with_reducible refine LeO.bind ?_ (fun _ => ?_))
   | exact ih0 _ _ _ _
   | exact ih1 _ _ _ _ _ _ _
   | exact ih2 _ _ _ _ _ _ _ _ _ _
   | exact spec_l01Inverse.mono _ _ _
   | exact spec_l01Prime.mono _ _
   | exact spec_l10Beta.mono _ _ _
   | exact LeO.none _
   | refine LeO.ite ?_ ?_
   | refine LeO.bind ?_ (fun _ => ?_)
  ·intro y0 y1 y2 y3 y4 y5 y6 y7 y8 y9
   unfold spec_NamedJacobi.j2
   repeat' first
   | (with_reducible exact ih0 _ _ _ _)
   | (with_reducible exact ih1 _ _ _ _ _ _ _)
   | (with_reducible exact ih2 _ _ _ _ _ _ _ _ _ _)
   | (with_reducible exact spec_l01Inverse.mono _ _ _)
   | (with_reducible exact spec_l01Prime.mono _ _)
   | (with_reducible exact spec_l10Beta.mono _ _ _)
   | (with_reducible exact LeO.refl _)
   | (with_reducible exact LeO.none _)
   | (with_reducible refine LeO.ite ?_ ?_)
   | (with_reducible refine LeO.bind ?_ (fun _ => ?_))
   | exact ih0 _ _ _ _
   | exact ih1 _ _ _ _ _ _ _
   | exact ih2 _ _ _ _ _ _ _ _ _ _
   | exact spec_l01Inverse.mono _ _ _
   | exact spec_l01Prime.mono _ _
   | exact spec_l10Beta.mono _ _ _
   | exact LeO.none _
   | refine LeO.ite ?_ ?_
   | refine LeO.bind ?_ (fun _ => ?_)
theorem spec_NamedJacobi.mono : ∀ a0 a1 a2 k, LeO (spec_NamedJacobi.f k a0 a1 a2) (spec_NamedJacobi.f (k + 1) a0 a1 a2) := by
 intro a0 a1 a2 k
 obtain ⟨ih0, ih1, ih2⟩ := spec_NamedJacobi.mono_l k
 unfold spec_NamedJacobi.f
 repeat' first
   | (with_reducible exact ih0 _ _ _ _)
   | (with_reducible exact ih1 _ _ _ _ _ _ _)
   | (with_reducible exact ih2 _ _ _ _ _ _ _ _ _ _)
   | (with_reducible exact spec_l01Inverse.mono _ _ _)
   | (with_reducible exact spec_l01Prime.mono _ _)
   | (with_reducible exact spec_l10Beta.mono _ _ _)
   | (with_reducible exact LeO.refl _)
   | (with_reducible exact LeO.none _)
   | (with_reducible refine LeO.ite ?_ ?_)
   | (with_reducible refine LeO.bind ?_ (fun _ => ?_))
   | exact ih0 _ _ _ _
   | exact ih1 _ _ _ _ _ _ _
   | exact ih2 _ _ _ _ _ _ _ _ _ _
   | exact spec_l01Inverse.mono _ _ _
   | exact spec_l01Prime.mono _ _
   | exact spec_l10Beta.mono _ _ _
   | exact LeO.none _
   | refine LeO.ite ?_ ?_
   | refine LeO.bind ?_ (fun _ => ?_)
def spec_NamedJacobi.T12 : Bool × List (List Nat × List Nat) := (true, [([], []), ([0], [0]), ([], []), ([], []), ([2, 3], [2, 3]), ([], []), ([4, 5], [4, 5]), ([6], [6]), ([1, 7, 4], [1, 7]), ([0, 1, 2, 3, 4, 5, 6, 7, 8], []), ([9, 8, 8, 0, 1, 2, 3, 4, 5, 6, 7, 8], [8, 9])])
def spec_NamedJacobi.B12 : List Nat := [0, 1, 0, 0, 12, 0, 60, 124, 255, 511, 1023]
theorem spec_NamedJacobi.tab12 : rtab .any (opsOf Try.f124 12) = spec_NamedJacobi.T12 := by kernel_rfl
theorem spec_NamedJacobi.bits12 : waitsOk spec_NamedJacobi.T12.2 spec_NamedJacobi.B12 = true := by kernel_rfl
def spec_NamedJacobi.T13 : Bool × List (List Nat × List Nat) := (true, [([], []), ([0], [0]), ([], []), ([], []), ([2, 3], [2, 3]), ([], []), ([], []), ([], []), ([6, 7], [6, 7]), ([5, 8], [5, 8]), ([4, 9], [4, 9]), ([], []), ([10, 11], [10, 11]), ([12], [12]), ([1, 13, 9], [1, 13]), ([0, 1, 2, 3, 4, 5, 6, 7, 8, 9, 10, 11, 12, 13, 14], []), ([15, 14, 14, 0, 1, 2, 3, 4, 5, 6, 7, 8, 9, 10, 11, 12, 13, 14], [14, 15])])
def spec_NamedJacobi.B13 : List Nat := [0, 1, 0, 0, 12, 0, 0, 0, 192, 480, 1020, 0, 4092, 8188, 16383, 32767, 65535]
theorem spec_NamedJacobi.tab13 : rtab .any (opsOf Try.f124 13) = spec_NamedJacobi.T13 := by kernel_rfl
theorem spec_NamedJacobi.bits13 : waitsOk spec_NamedJacobi.T13.2 spec_NamedJacobi.B13 = true := by kernel_rfl
set_option maxHeartbeats 8000000 in
set_option maxRecDepth 100000 in
theorem spec_NamedJacobi.calls (k : Nat) (a0 : ByteArray) (a1 : Int) (a2 : Int) (r1 : Int) (r2 : List Int) (r3 : List Int) (r4 : Int) (w : World) (h : spec_NamedJacobi.f k a0 a1 a2 = some (r1, r2, r3, r4)) :
  Calls Try.prog 124 #[.string a0, .int .i64 a1, .int .i64 a2] w fun e w' => ∃ v1_ v2_ : Value, e = .returned (.tuple #[.agg #[.int .i64 r1, v1_, v2_], .int .i64 r4]) ∧ Kd.R (Kd.int .i64) 2 w' w.heap.size (fun k_ => some k_ ≠ (v2_ : Value).ownBlock) v1_ r2 ∧ Kd.R (Kd.int .i64) 2 w' w.heap.size (fun k_ => some k_ ≠ (v1_ : Value).ownBlock) v2_ r3 ∧ Below w.heap.size w w' := by
 have hu29 := Try.underlying29
 have HB := Aside0.mk (Below.refl w.heap.size w)
 have H : ((spec_l01Prime.f k a1).bind fun t1364 => (if t1364 = true then ((spec_l01In.f a2 1 12).bind fun t1365 => (spec_NamedJacobi.j0 k a0 a1 a2 (!t1365))) else (spec_NamedJacobi.j0 k a0 a1 a2 true))) = some (r1, r2, r3, r4) := h
 clear h
 have HC4 := Aside0.mk H
 clear H
 go_enter Try.func124, Try.ntmps124
 go_upto_region 1 with (first | ((with_reducible refine gate_dst (N := 6) rfl ?_); refine box_event ?hg (N := 6) ?hd (cs := #[.int .i64 0, .slice none 0 0, .slice none 0 0]) (t := 29) ?hr ?_; (case hd => rfl); (case hg => rfl); (case hr => first | (go_simp; done) | (go_simp; rfl)); intro gb1363 hg w5 hbox hb; have n0_ := Aside0.mk (below_step ZB hb); have n1_ := Aside0.mk (hbox); have n2_ := Aside0.mk ((ZG hg : w.heap.size ≤ gb1363)); have n3_ := Aside0.mk ((ZG hg : w.heap.size ≤ gb1363)); clear HB; have HB := n0_; have BK1363 := n1_; have GW1363 := n2_; have GE1363 := n3_; clear n0_ n1_ n2_ n3_; clear hb hbox hg))
 (try simp only [Act.put, List.setIfInBounds_toArray, List.set_cons_zero, List.set_cons_succ])
 go_cut [12] (fun v12 wc => ∃ (kq : Nat) (x12_3 : Bool), v12 = .bool x12_3 ∧ Aside0 (spec_NamedJacobi.j0 kq a0 a1 a2 x12_3 = some (r1, r2, r3, r4)) ∧ Aside0 (kq ≤ k) ∧ Aside0 (wc.heap[gb1363]? = some (.cells #[.int .i64 0, (.slice none 0 0), (.slice none 0 0)] 29 (0, 0))) ∧ Aside0 (Below w.heap.size w wc))
 case first =>
  have H := HC4.out
  clear HC4
  replace H := Option.bind_eq_some_iff.mp H
  obtain ⟨t1364, A60, H⟩ := H
  replace H : (if t1364 = true then ((spec_l01In.f a2 1 12).bind fun t1365 => (spec_NamedJacobi.j0 k a0 a1 a2 (!t1365))) else (spec_NamedJacobi.j0 k a0 a1 a2 true)) = some (r1, r2, r3, r4) := H
  have A6 := Aside0.mk A60
  clear A60
  by_cases c7 : t1364 = true
  ·subst c7
   have H1 : ((spec_l01In.f a2 1 12).bind fun t1365 => (spec_NamedJacobi.j0 k a0 a1 a2 (!t1365))) = some (r1, r2, r3, r4) := by rw [if_pos rfl] at H; exact H
   clear H
   have H := H1
   clear H1
   replace H := Option.bind_eq_some_iff.mp H
   obtain ⟨t1365, A80, H⟩ := H
   replace H : (spec_NamedJacobi.j0 k a0 a1 a2 (!t1365)) = some (r1, r2, r3, r4) := H
   have A8 := Aside0.mk A80
   clear A80
   have H' := Aside0.mk H
   clear H
   go_wp2_with (first | ((with_reducible refine gate_callee (f := 95) rfl ?_); refine goesL_ (some 14) rfl rfl Try.func95 (by kernel_rfl) rfl #[.int .i64 a1] rfl ZA ?_; (with_reducible refine (spec_l01Prime.calls k a1 true _ A6.out).mono ?_); rintro e w' ⟨rfl, ⟨nd, rfl⟩⟩; refine ⟨_, rfl, ?_⟩) | (go_at_call 83; (with_reducible refine (spec_l01In.calls a2 1 12 t1365 _ A8.out).mono ?_); rintro e w' ⟨rfl, ⟨nd, rfl⟩⟩))
   go_meet
   case rel => exact ⟨_, (!t1365), (by first | rfl | (simp; done) | (simp [*]; done)), H', ⟨by first | omega | exact Nat.le_refl _⟩, ⟨ZK BK1363⟩, ⟨ZB⟩⟩
  ·replace c7 := Bool.eq_false_iff.mpr c7
   subst c7
   have H1 : (spec_NamedJacobi.j0 k a0 a1 a2 true) = some (r1, r2, r3, r4) := by rw [if_neg (show ¬ (false = true) by decide)] at H; exact H
   clear H
   have H := H1
   clear H1
   have H' := Aside0.mk H
   clear H
   go_wp2_with (first | ((with_reducible refine gate_callee (f := 95) rfl ?_); refine goesL_ (some 14) rfl rfl Try.func95 (by kernel_rfl) rfl #[.int .i64 a1] rfl ZA ?_; (with_reducible refine (spec_l01Prime.calls k a1 false _ A6.out).mono ?_); rintro e w' ⟨rfl, ⟨nd, rfl⟩⟩; refine ⟨_, rfl, ?_⟩))
   go_meet
   case rel => exact ⟨_, (true), (by first | rfl | (simp; done) | (simp [*]; done)), H', ⟨by first | omega | exact Nat.le_refl _⟩, ⟨ZK BK1363⟩, ⟨ZB⟩⟩
 case rest =>
  clear HC4
  try clear c1
  try clear p2
  try clear c7
  obtain ⟨kq, x12_3, rfl, HA, HJ3, BK1363, HB⟩ := hcut
  cases kq with
  | zero => exact absurd HA.out (by simp [spec_NamedJacobi.j0])
  | succ kj3 =>
   have H := HA.out
   clear HA
   simp only [spec_NamedJacobi.j0] at H
   by_cases c9 : x12_3 = true
   ·subst c9
    have H1 : (some (0, ([] : List Int), ([] : List Int), 2)) = some (r1, r2, r3, r4) := by rw [if_pos rfl] at H; exact H
    clear H
    have H := H1
    clear H1
    simp only [Option.some.injEq, Prod.mk.injEq] at H
    obtain ⟨rfl, rfl, rfl, rfl⟩ := H
    obtain ⟨hcz10_0, hcz10_1, hcz10_2, hfz10_0, hfz10_1, hfz10_2⟩ := ZD3 BK1363
    go_wp2
    refine bodyPost_ret (results_ct rfl _ _ gb1363 29 #[.int .i64 0, .slice none 0 0, .slice none 0 0] (0, 0) _ rfl (by refine ZS ?_; refine blk_put (cs := #[.int .i64 0, .slice none 0 0, .slice none 0 0]) ?_ 2 _ rfl; refine ZS ?_; refine blk_put (cs := #[.int .i64 0, .slice none 0 0, .slice none 0 0]) ?_ 1 _ rfl; refine ZS ?_; refine blk_put (cs := #[.int .i64 0, .slice none 0 0, .slice none 0 0]) ?_ 0 _ rfl; refine ZS ?_; exact BK1363.out) Try.underlying29 rfl (by kernel_rfl)) rfl ?_
    exact ⟨_, _, by first | rfl | (simp [errW_none, errW_some] <;> rfl) | (simp [*, errW_none, errW_some] <;> rfl), by first | exact Kd.R_nil _ _ _ _ _ | exact Kd.N_nil _ _ _ _ _ | exact Kd.V_nil _ _ _ _ _ | exact Kd.Q_nil _ _ _ _ _ | exact Kd.S_nil _ _ _ _ _, by first | exact Kd.R_nil _ _ _ _ _ | exact Kd.N_nil _ _ _ _ _ | exact Kd.V_nil _ _ _ _ _ | exact Kd.Q_nil _ _ _ _ _ | exact Kd.S_nil _ _ _ _ _, ZB⟩
   ·replace c9 := Bool.eq_false_iff.mpr c9
    subst c9
    have H1 : ((spec_l10Known.f a0).bind fun t1366 => (if t1366 = true then (spec_NamedJacobi.l0 kj3 a0 a1 a2 0 a1 (([] : List Int)) (([] : List Int))) else (some (0, ([] : List Int), ([] : List Int), 4)))) = some (r1, r2, r3, r4) := by rw [if_neg (show ¬ (false = true) by decide)] at H; exact H
    clear H
    have H := H1
    clear H1
    replace H := Option.bind_eq_some_iff.mp H
    obtain ⟨t1366, A110, H⟩ := H
    replace H : (if t1366 = true then (spec_NamedJacobi.l0 kj3 a0 a1 a2 0 a1 (([] : List Int)) (([] : List Int))) else (some (0, ([] : List Int), ([] : List Int), 4))) = some (r1, r2, r3, r4) := H
    have A11 := Aside0.mk A110
    clear A110
    by_cases c12 : t1366 = true
    ·subst c12
     have H1 : (spec_NamedJacobi.l0 kj3 a0 a1 a2 0 a1 (([] : List Int)) (([] : List Int))) = some (r1, r2, r3, r4) := by rw [if_pos rfl] at H; exact H
     clear H
     have H := H1
     clear H1
     obtain ⟨y1367, hy1367⟩ : ∃ y_ : List Int, y_ = (([] : List Int)) := ⟨_, rfl⟩
     replace H : (spec_NamedJacobi.l0 kj3 a0 a1 a2 0 a1 y1367 (([] : List Int))) = some (r1, r2, r3, r4) := by first | (rw [hy1367]; with_reducible exact H) | (have H2_ := (Option.bind_some _ _).symm.trans H; rw [hy1367]; with_reducible exact H2_) | (have H2_ := (Option.bind_some _ _).symm.trans H; with_reducible exact H2_) | with_reducible exact H | (rw [hy1367]; exact H) | exact H
     have Ny1367 := Aside0.mk hy1367
     clear hy1367
     obtain ⟨y1370, hy1370⟩ : ∃ y_ : List Int, y_ = (([] : List Int)) := ⟨_, rfl⟩
     replace H : (spec_NamedJacobi.l0 kj3 a0 a1 a2 0 a1 y1367 y1370) = some (r1, r2, r3, r4) := by first | (rw [hy1370]; with_reducible exact H) | (have H2_ := (Option.bind_some _ _).symm.trans H; rw [hy1370]; with_reducible exact H2_) | (have H2_ := (Option.bind_some _ _).symm.trans H; with_reducible exact H2_) | with_reducible exact H | (rw [hy1370]; exact H) | exact H
     have Ny1370 := Aside0.mk hy1370
     clear hy1370
     have H' := Aside0.mk H
     clear H
     go_wp2_with (first | ((with_reducible refine gate_callee (f := 132) rfl ?_); refine goesL_ (some 24) rfl rfl Try.func132 (by kernel_rfl) rfl #[.string a0] rfl ZA ?_; (with_reducible refine (spec_l10Known.calls a0 true _ A11.out).mono ?_); rintro e w' ⟨rfl, ⟨nd, rfl⟩⟩; refine ⟨_, rfl, ?_⟩; (try (rw [drewN_self wc]; generalize hq_ : World.drewN wc _ = wc; have n0_ : Aside0 (wc.heap[gb1363]? = some (.cells #[.int .i64 0, .slice none 0 0, .slice none 0 0] 29 (0, 0))) := ⟨by rw [← hq_]; exact (ZK BK1363)⟩; have n1_ : Aside0 (Below w.heap.size w wc) := ⟨by rw [← hq_]; exact ZB⟩; clear BK1363 HB hq_; have BK1363 := n0_; have HB := n1_; clear n0_ n1_)); (try (obtain ⟨hcy1363_0, hcy1363_1, hcy1363_2, hfy1363_0, hfy1363_1, hfy1363_2⟩ := ZD3 BK1363))) | ((with_reducible refine gate_dst (N := 28) rfl ?_); refine Kd.R_lit (Kd.int .i64) _ 2 ?hg (N := 28) ?hd (xs := ([] : List Int)) (inner := []) (ok := fun _ => True) (okp := fun _ => True) ?hr ?hp (fun _ hk => hk) trivial (Below.refl _ _) (Nat.le_refl _) (by simp) ?_; (case hd => rfl); (case hg => rfl); (case hr => first | (go_simp; done) | (go_simp; rfl)); (case hp => exact (Reps.none _ _)); intro v1368 w13 ho14 hb hg_ hnew_; clear hg_ hnew_; (first | rw [← Ny1367.out] at ho14 | (simp only [Int.reduceToNat] at ho14; rw [← Ny1367.out] at ho14)); have n0_ := Aside0.mk (Kd.R_lower ho14 (below_size ZB)); have n1_ := ZL BK1363 hb; have n2_ := Aside0.mk (below_step ZB hb); clear BK1363; clear HB; have HO1369 := n0_; have BK1363 := n1_; have HB := n2_; clear n0_ n1_ n2_; clear hb ho14) | ((with_reducible refine gate_dst (N := 29) rfl ?_); refine Kd.R_lit (Kd.int .i64) _ 2 ?hg (N := 29) ?hd (xs := ([] : List Int)) (inner := []) (ok := fun _ => True) (okp := fun _ => True) ?hr ?hp (fun _ hk => hk) trivial (Below.refl _ _) (Nat.le_refl _) (by simp) ?_; (case hd => rfl); (case hg => rfl); (case hr => first | (go_simp; done) | (go_simp; rfl)); (case hp => exact (Reps.none _ _)); intro v1371 w15 ho16 hb hg_ hnew_; clear hg_ hnew_; (first | rw [← Ny1370.out] at ho16 | (simp only [Int.reduceToNat] at ho16; rw [← Ny1370.out] at ho16)); have n0_ := Aside0.mk (Kd.R_elder' (ZR HO1369) (Kd.R_base ho16) hb); have n1_ := Aside0.mk (Kd.R_lower (Kd.R_new' ho16 (Kd.R_lt (ZR HO1369))) (below_size ZB)); have n2_ := ZL BK1363 hb; have n3_ := Aside0.mk (below_step ZB hb); clear HO1369; clear BK1363; clear HB; have HO1369 := n0_; have HO1372 := n1_; have BK1363 := n2_; have HB := n3_; clear n0_ n1_ n2_ n3_; clear hb ho16; obtain ⟨Ao17, co17, eo17⟩ := Kd.R_slice HO1372.out; subst eo17; obtain ⟨Ao18, co18, eo18⟩ := Kd.R_slice HO1369.out; subst eo18) | ((with_reducible refine gate_dst (N := 8) rfl ?_); refine box_event ?hg (N := 8) ?hd (cs := #[.int .i64 0, .slice none 0 0, .slice none 0 0]) (t := 29) ?hr ?_; (case hd => rfl); (case hg => rfl); (case hr => first | (go_simp; done) | (go_simp; rfl)); intro gb1373 hg w19 hbox hb; have n0_ := Aside0.mk (Kd.R_below (ZR HO1369) hb); have n1_ := Aside0.mk (Kd.R_below (ZR HO1372) hb); have n2_ := ZL BK1363 hb; have n3_ := Aside0.mk (below_step ZB hb); have n4_ := Aside0.mk (hbox); have n5_ := Aside0.mk ((ZG hg : w.heap.size ≤ gb1373)); have n6_ := Aside0.mk ((ZG hg : w.heap.size ≤ gb1373)); have n7_ := Aside0.mk ((ZN hg BK1363 : gb1363 ≠ gb1373)); have n8_ := Aside0.mk ((ZM hg BK1363 : gb1373 ≠ gb1363)); clear HO1369; clear HO1372; clear BK1363; clear HB; have HO1369 := n0_; have HO1372 := n1_; have BK1363 := n2_; have HB := n3_; have BK1373 := n4_; have GW1373 := n5_; have GE1373 := n6_; have NB1363_1373 := n7_; have NB1373_1363 := n8_; clear n0_ n1_ n2_ n3_ n4_ n5_ n6_ n7_ n8_; clear hb hbox hg; have hnb20 := NB1373_1363.out; have hnc20 := NB1363_1373.out; obtain ⟨hcz21_0, hcz21_1, hcz21_2, hfz21_0, hfz21_1, hfz21_2⟩ := ZD3 BK1373))
     go_loopg [9] kj3 (fun kq v9 w' => ∃ (x9_2 : Int) (x1364000_2 : Int) (x1374001_2 : List Int) (x1374002_2 : List Int) (u1374001 : Value) (u1374002 : Value), v9 = .int .i64 x9_2 ∧ Aside0 (spec_NamedJacobi.l0 kq a0 a1 a2 x9_2 a1 x1374001_2 x1374002_2 = some (r1, r2, r3, r4)) ∧ Aside0 (kq ≤ kj3) ∧ Aside0 (Kd.R (Kd.int .i64) 2 w' w.heap.size (fun k_ => some k_ ≠ (u1374002 : Value).ownBlock) u1374001 x1374001_2) ∧ Aside0 (Kd.R (Kd.int .i64) 2 w' w.heap.size (fun k_ => some k_ ≠ (u1374001 : Value).ownBlock) u1374002 x1374002_2) ∧ Aside0 (w'.heap[gb1363]? = some (.cells #[.int .i64 x1364000_2, (.slice none 0 0), (.slice none 0 0)] 29 (0, 0))) ∧ Aside0 (w'.heap[gb1373]? = some (.cells #[.int .i64 a1, u1374001, u1374002] 29 (0, 0))) ∧ Aside0 (Below w.heap.size w w'))
     case atStart => exact ⟨(0), (0), (y1367), (y1370), (.slice Ao18 y1367.length co18), (.slice Ao17 y1370.length co17), (by first | rfl | (simp; done) | (simp [*]; done)), H', ⟨Nat.le_refl _⟩, ⟨by refine ZQ ?_; exact Kd.R_mono (Kd.R_far (p := ⟨gb1373, 2, none⟩) (Kd.R_far (p := ⟨gb1373, 1, none⟩) (Kd.R_far (p := ⟨gb1373, 0, none⟩) (Kd.R_types HO1369.out BK1373.out (by decide)) (fun _ hk => hk.2) (.int .i64 a1)) (fun _ hk => hk.2) (.slice Ao18 y1367.length co18)) (fun _ hk => hk.2) (.slice Ao17 y1370.length co17)) (fun _ hk => hk.1.2)⟩, ⟨by refine ZQ ?_; exact Kd.R_mono (Kd.R_far (p := ⟨gb1373, 2, none⟩) (Kd.R_far (p := ⟨gb1373, 1, none⟩) (Kd.R_far (p := ⟨gb1373, 0, none⟩) (Kd.R_types HO1372.out BK1373.out (by decide)) (fun _ hk => hk.2) (.int .i64 a1)) (fun _ hk => hk.2) (.slice Ao18 y1367.length co18)) (fun _ hk => hk.2) (.slice Ao17 y1370.length co17)) (fun _ hk => hk.1.2)⟩, ⟨by refine ZS ?_; refine blk_far ?_ NB1363_1373.out _; refine ZS ?_; refine blk_far ?_ NB1363_1373.out _; refine ZS ?_; refine blk_far ?_ NB1363_1373.out _; refine ZS ?_; exact BK1363.out⟩, ⟨by refine ZS ?_; refine blk_put (cs := #[.int .i64 a1, .slice Ao18 y1367.length co18, .slice none 0 0]) ?_ 2 _ rfl; refine ZS ?_; refine blk_put (cs := #[.int .i64 a1, .slice none 0 0, .slice none 0 0]) ?_ 1 _ rfl; refine ZS ?_; refine blk_put (cs := #[.int .i64 0, .slice none 0 0, .slice none 0 0]) ?_ 0 _ rfl; refine ZS ?_; exact BK1373.out⟩, ⟨ZB⟩⟩
     case round =>
      clear H'
      try clear c1
      try clear c2
      try clear p2
      try clear c7
      try clear c9
      try clear c12
      try clear c13
      try clear c20
      try clear hcz10_0
      try clear hcz10_1
      try clear hcz10_2
      try clear hcz21_0
      try clear hcz21_1
      try clear hcz21_2
      try clear hfz10_0
      try clear hfz10_1
      try clear hfz10_2
      try clear hfz21_0
      try clear hfz21_1
      try clear hfz21_2
      try clear p2
      obtain ⟨x9_2, x1364000_2, x1374001_2, x1374002_2, u1374001, u1374002, rfl, HA, HK2, HO_1374001, HO_1374002, BK1363, BK1373, HB⟩ := hrel
      cases gk with
      | zero => exact absurd HA.out (by simp [spec_NamedJacobi.l0])
      | succ k2 =>
       have H := HA.out
       clear HA
       simp only [spec_NamedJacobi.l0] at H
       by_cases c22 : x9_2 < a2
       ·rw [if_pos c22] at H
        have c22b0 : decide (x9_2 < a2) = true := decide_eq_true c22
        clear c22
        replace H := Option.bind_eq_some_iff.mp H
        obtain ⟨⟨t1374, t1375⟩, A230, H⟩ := H
        replace H : (if a1 = 0 then (none) else (if (Int.tmod t1374 a1) = 0 then (spec_NamedJacobi.j2 k2 a0 a1 a2 x9_2 t1374 t1375 true a1 x1374001_2 x1374002_2) else (spec_NamedJacobi.j2 k2 a0 a1 a2 x9_2 t1374 t1375 ((Int.tmod t1375 a1) == 0) a1 x1374001_2 x1374002_2))) = some (r1, r2, r3, r4) := H
        have A23 := Aside0.mk A230
        clear A230
        have HC24 := Aside0.mk H
        clear H
        go_upto_region 10 with (first | ((with_reducible refine gate_callee (f := 133) rfl ?_); refine goesL_ (some 39) rfl rfl Try.func133 (by kernel_rfl) rfl #[.string a0, .int .i64 x9_2] rfl ZA ?_; (with_reducible refine (spec_l10Beta.calls k2 a0 x9_2 t1374 t1375 _ A23.out).mono ?_); rintro e w' ⟨rfl, ⟨nd, rfl⟩⟩; refine ⟨_, rfl, ?_⟩))
        (try simp only [Act.put, List.setIfInBounds_toArray, List.set_cons_zero, List.set_cons_succ])
        go_cut [51] (fun v51 wc => ∃ (kq : Nat) (x51_23 : Bool), v51 = .bool x51_23 ∧ Aside0 (spec_NamedJacobi.j2 kq a0 a1 a2 x9_2 t1374 t1375 x51_23 a1 x1374001_2 x1374002_2 = some (r1, r2, r3, r4)) ∧ Aside0 (kq ≤ k2) ∧ Aside0 (Kd.R (Kd.int .i64) 2 wc w.heap.size (fun k_ => some k_ ≠ (u1374002 : Value).ownBlock) u1374001 x1374001_2) ∧ Aside0 (Kd.R (Kd.int .i64) 2 wc w.heap.size (fun k_ => some k_ ≠ (u1374001 : Value).ownBlock) u1374002 x1374002_2) ∧ Aside0 (wc.heap[gb1363]? = some (.cells #[.int .i64 x1364000_2, (.slice none 0 0), (.slice none 0 0)] 29 (0, 0))) ∧ Aside0 (wc.heap[gb1373]? = some (.cells #[.int .i64 a1, u1374001, u1374002] 29 (0, 0))) ∧ Aside0 (Below w.heap.size w wc))
        case first =>
         have H := HC24.out
         clear HC24
         by_cases c25 : a1 = 0
         ·rw [if_pos c25] at H
          exact absurd H (by simp)
         ·rw [if_neg c25] at H
          have c25b0 : (a1 == 0) = false := beq_eq_false_iff_ne.mpr c25
          have c25b1 : (a1 != 0) = true := bne_iff_ne.mpr c25
          (first | rw [c25b0] | (simp only [i64_w, i32_w]; rw [c25b0]) | skip)
          by_cases c26 : (Int.tmod t1374 a1) = 0
          ·rw [if_pos c26] at H
           have c26b0 : ((Int.tmod t1374 a1) == 0) = true := beq_iff_eq.mpr c26
           have c26b1 : ((Int.tmod t1374 a1) != 0) = false := bne_eq_false_iff_eq.mpr c26
           clear c26
           have H' := Aside0.mk H
           clear H
           go_wp2
           go_meet
           case rel => exact ⟨_, (true), (by first | rfl | (simp; done) | (simp [*]; done)), H', ⟨by have := HJ3.out; have := HK2.out; first | omega | exact Nat.le_refl _⟩, ⟨ZR HO_1374001⟩, ⟨ZR HO_1374002⟩, ⟨ZK BK1363⟩, ⟨ZK BK1373⟩, ⟨ZB⟩⟩
          ·rw [if_neg c26] at H
           have c26b0 : ((Int.tmod t1374 a1) == 0) = false := beq_eq_false_iff_ne.mpr c26
           have c26b1 : ((Int.tmod t1374 a1) != 0) = true := bne_iff_ne.mpr c26
           have H' := Aside0.mk H
           clear H
           go_wp2
           go_meet
           case rel => exact ⟨_, (((Int.tmod t1375 a1) == 0)), (by first | rfl | (simp; done) | (simp [*]; done)), H', ⟨by have := HJ3.out; have := HK2.out; first | omega | exact Nat.le_refl _⟩, ⟨ZR HO_1374001⟩, ⟨ZR HO_1374002⟩, ⟨ZK BK1363⟩, ⟨ZK BK1373⟩, ⟨ZB⟩⟩
        case rest =>
         clear HC24
         try clear c1
         try clear c2
         try clear p2
         try clear c7
         try clear c9
         try clear c12
         try clear c13
         try clear c20
         try clear c22
         try clear c22b0
         try clear c25
         try clear c25b0
         try clear c25b1
         try clear c26
         try clear c26b0
         try clear c26b1
         try clear hcz10_0
         try clear hcz10_1
         try clear hcz10_2
         try clear hcz21_0
         try clear hcz21_1
         try clear hcz21_2
         try clear hfz10_0
         try clear hfz10_1
         try clear hfz10_2
         try clear hfz21_0
         try clear hfz21_1
         try clear hfz21_2
         try clear p2
         obtain ⟨kq, x51_23, rfl, HA, HJ23, HO_1374001, HO_1374002, BK1363, BK1373, HB⟩ := hcut
         cases kq with
         | zero => exact absurd HA.out (by simp [spec_NamedJacobi.j2])
         | succ kj23 =>
          have H := HA.out
          clear HA
          simp only [spec_NamedJacobi.j2] at H
          by_cases c27 : x51_23 = true
          ·subst c27
           have H1 : (some (0, ([] : List Int), ([] : List Int), 5)) = some (r1, r2, r3, r4) := by rw [if_pos rfl] at H; exact H
           clear H
           have H := H1
           clear H1
           simp only [Option.some.injEq, Prod.mk.injEq] at H
           obtain ⟨rfl, rfl, rfl, rfl⟩ := H
           have hnb28 := NB1363_1373.out
           have hnc28 := NB1373_1363.out
           obtain ⟨hcz29_0, hcz29_1, hcz29_2, hfz29_0, hfz29_1, hfz29_2⟩ := ZD3 BK1363
           go_wp2
           refine bodyPost_ret (results_ct rfl _ _ gb1363 29 #[.int .i64 0, .slice none 0 0, .slice none 0 0] (0, 0) _ rfl (by refine ZS ?_; refine blk_put (cs := #[.int .i64 0, .slice none 0 0, .slice none 0 0]) ?_ 2 _ rfl; refine ZS ?_; refine blk_put (cs := #[.int .i64 0, .slice none 0 0, .slice none 0 0]) ?_ 1 _ rfl; refine ZS ?_; refine blk_put (cs := #[.int .i64 x1364000_2, .slice none 0 0, .slice none 0 0]) ?_ 0 _ rfl; refine ZS ?_; exact BK1363.out) Try.underlying29 rfl (by kernel_rfl)) rfl ?_
           exact ⟨_, _, by first | rfl | (simp [errW_none, errW_some] <;> rfl) | (simp [*, errW_none, errW_some] <;> rfl), by first | exact Kd.R_nil _ _ _ _ _ | exact Kd.N_nil _ _ _ _ _ | exact Kd.V_nil _ _ _ _ _ | exact Kd.Q_nil _ _ _ _ _ | exact Kd.S_nil _ _ _ _ _, by first | exact Kd.R_nil _ _ _ _ _ | exact Kd.N_nil _ _ _ _ _ | exact Kd.V_nil _ _ _ _ _ | exact Kd.Q_nil _ _ _ _ _ | exact Kd.S_nil _ _ _ _ _, ZB⟩
          ·replace c27 := Bool.eq_false_iff.mpr c27
           subst c27
           have H1 : ((spec_l10Alpha.f a0 x9_2).bind fun t1376 => (if a1 = 0 then (none) else (if x1374001_2.length < 17592186044416 then ((spec_l01Inverse.f kj23 a1 (Int.tmod t1375 a1)).bind fun t1380 => (if x1374002_2.length < 17592186044416 then (spec_NamedJacobi.l0 kj23 a0 a1 a2 (wrap64 (x9_2 + 1)) a1 (x1374001_2 ++ [Int.tmod t1376 a1]) (x1374002_2 ++ [Int.tmod (wrap64 ((Int.tmod t1374 a1) * t1380)) a1])) else (none))) else (none)))) = some (r1, r2, r3, r4) := by rw [if_neg (show ¬ (false = true) by decide)] at H; exact H
           clear H
           have H := H1
           clear H1
           replace H := Option.bind_eq_some_iff.mp H
           obtain ⟨t1376, A300, H⟩ := H
           replace H : (if a1 = 0 then (none) else (if x1374001_2.length < 17592186044416 then ((spec_l01Inverse.f kj23 a1 (Int.tmod t1375 a1)).bind fun t1380 => (if x1374002_2.length < 17592186044416 then (spec_NamedJacobi.l0 kj23 a0 a1 a2 (wrap64 (x9_2 + 1)) a1 (x1374001_2 ++ [Int.tmod t1376 a1]) (x1374002_2 ++ [Int.tmod (wrap64 ((Int.tmod t1374 a1) * t1380)) a1])) else (none))) else (none))) = some (r1, r2, r3, r4) := H
           have A30 := Aside0.mk A300
           clear A300
           by_cases c31 : a1 = 0
           ·rw [if_pos c31] at H
            exact absurd H (by simp)
           ·rw [if_neg c31] at H
            have c31b0 : (a1 == 0) = false := beq_eq_false_iff_ne.mpr c31
            have c31b1 : (a1 != 0) = true := bne_iff_ne.mpr c31
            by_cases c32 : x1374001_2.length < 17592186044416
            ·rw [if_pos c32] at H
             have LMc32 := Aside0.mk c32
             clear c32
             obtain ⟨y1377, hy1377⟩ : ∃ y_ : List Int, y_ = (x1374001_2 ++ [Int.tmod t1376 a1]) := ⟨_, rfl⟩
             replace H : ((spec_l01Inverse.f kj23 a1 (Int.tmod t1375 a1)).bind fun t1380 => (if x1374002_2.length < 17592186044416 then (spec_NamedJacobi.l0 kj23 a0 a1 a2 (wrap64 (x9_2 + 1)) a1 y1377 (x1374002_2 ++ [Int.tmod (wrap64 ((Int.tmod t1374 a1) * t1380)) a1])) else (none))) = some (r1, r2, r3, r4) := by first | (rw [hy1377]; with_reducible exact H) | (have H2_ := (Option.bind_some _ _).symm.trans H; rw [hy1377]; with_reducible exact H2_) | (have H2_ := (Option.bind_some _ _).symm.trans H; with_reducible exact H2_) | with_reducible exact H | (rw [hy1377]; exact H) | exact H
             have Ny1377 := Aside0.mk hy1377
             clear hy1377
             replace H := Option.bind_eq_some_iff.mp H
             obtain ⟨t1380, A330, H⟩ := H
             replace H : (if x1374002_2.length < 17592186044416 then (spec_NamedJacobi.l0 kj23 a0 a1 a2 (wrap64 (x9_2 + 1)) a1 y1377 (x1374002_2 ++ [Int.tmod (wrap64 ((Int.tmod t1374 a1) * t1380)) a1])) else (none)) = some (r1, r2, r3, r4) := H
             have A33 := Aside0.mk A330
             clear A330
             by_cases c34 : x1374002_2.length < 17592186044416
             ·rw [if_pos c34] at H
              have LMc34 := Aside0.mk c34
              clear c34
              obtain ⟨y1381, hy1381⟩ : ∃ y_ : List Int, y_ = (x1374002_2 ++ [Int.tmod (wrap64 ((Int.tmod t1374 a1) * t1380)) a1]) := ⟨_, rfl⟩
              replace H : (spec_NamedJacobi.l0 kj23 a0 a1 a2 (wrap64 (x9_2 + 1)) a1 y1377 y1381) = some (r1, r2, r3, r4) := by first | (rw [hy1381]; with_reducible exact H) | (have H2_ := (Option.bind_some _ _).symm.trans H; rw [hy1381]; with_reducible exact H2_) | (have H2_ := (Option.bind_some _ _).symm.trans H; with_reducible exact H2_) | with_reducible exact H | (rw [hy1381]; exact H) | exact H
              have Ny1381 := Aside0.mk hy1381
              clear hy1381
              have H' := Aside0.mk H
              clear H
              try go_wp2
              have n0_ := Aside0.mk (Kd.R_drew HO_1374001.out)
              have n1_ := Aside0.mk (Kd.R_drew HO_1374002.out)
              have n2_ := Aside0.mk (blk_drew BK1363.out)
              have n3_ := Aside0.mk (blk_drew BK1373.out)
              have n4_ := Aside0.mk (below_drew1 HB.out)
              clear HO_1374001
              clear HO_1374002
              clear BK1363
              clear BK1373
              clear HB
              have HO_1374001 := n0_
              have HO_1374002 := n1_
              have BK1363 := n2_
              have BK1373 := n3_
              have HB := n4_
              clear n0_ n1_ n2_ n3_ n4_
              refine start_ (n := 11) (S := fun w' => w'.cell? ⟨gb1373, 0, none⟩ = some (.int .i64 a1) ∧ w'.cell? ⟨gb1373, 1, none⟩ = some (u1374001) ∧ w'.cell? ⟨gb1373, 2, none⟩ = some (u1374002)) (ds := [10]) #[false, false, false, false, false, false, false, false, false, false, false] (by kernel_rfl) rfl rfl ⟨(blk_cell BK1373.out 0).trans rfl, (blk_cell BK1373.out 1).trans rfl, (blk_cell BK1373.out 2).trans rfl⟩ (fun hHeld => ?_); refine with_tabW spec_NamedJacobi.tab12 spec_NamedJacobi.bits12 (fun HT_ HW_ => ?_)
              generalize wc.drew = w35 at HO_1374001 HO_1374002 BK1363 BK1373 HB hHeld ⊢
              refine Zpt 0 (some 53) (h := ?_)
              refine Zpt 2 (some 55) (h := ?_)
              refine Zpt 3 (some 56) (h := ?_)
              refine Zpt 5 (some 58) (h := ?_)
              refine ZtW3 1 (some 54) hHeld (h := ?_)
              refine one_ (i := 4) (N := some 57) #[true, true, true, true, true, true, false, false, false, false, false] rfl rfl (one_of HT_.out (by kernel_rfl)) (by decide) (fun K hK => ?_)
              refine goes_ Try.func134 (by kernel_rfl) rfl #[.string a0, .int .i64 x9_2] (by rfl) rfl rfl ZA ?_
              with_reducible refine (spec_l10Alpha.calls a0 x9_2 t1376 _ A30.out).mono ?_
              rintro e w' ⟨rfl, ⟨nd, rfl⟩⟩
              refine ⟨_, rfl, ?_⟩
              refine hK.out _ _ ⟨(blk_cell BK1373.out 0).trans rfl, (blk_cell BK1373.out 1).trans rfl, (blk_cell BK1373.out 2).trans rfl⟩ (fun hHeld => ?_)
              clear hK K
              refine norm_ (a' := ?_) ?_ ?_
              rotate_left
              ·show Act.put _ (some 57) _ = _
               simp only [Act.put, List.setIfInBounds_toArray, List.set_cons_zero, List.set_cons_succ, i64_w, i32_w]
               rfl
              refine Zpt 6 (some 59) (h := ?_)
              refine one_ (i := 7) (N := some 60) #[true, true, true, true, true, true, true, true, false, false, false] rfl rfl (one_of HT_.out (by kernel_rfl)) (by decide) (fun K hK => ?_)
              refine value_ (w1 := ?_) (v := ?_) (by rfl) rfl ?_ ?_
              rotate_left 2
              ·go_simp
               constructor
               ·rfl
               ·rfl
              refine hK.out _ _ ⟨(blk_cell (blk_alloc BK1373.out _) 0).trans rfl, (blk_cell (blk_alloc BK1373.out _) 1).trans rfl, (blk_cell (blk_alloc BK1373.out _) 2).trans rfl⟩ (fun hHeld => ?_)
              clear hK K
              refine norm_ (a' := ?_) ?_ ?_
              rotate_left
              ·show Act.put _ (some 60) _ = _
               simp only [Act.put, List.setIfInBounds_toArray, List.set_cons_zero, List.set_cons_succ, i64_w, i32_w]
               rfl
              refine one_ (i := 8) (N := some 61) #[true, true, true, true, true, true, true, true, true, false, false] rfl rfl (one_of HT_.out (by kernel_rfl)) (by decide) (fun K hK => ?_)
              refine Kd.R_append_step (Kd.int .i64) (w0 := w) w.heap.size (by rfl) (.tmp 54) (.tmp 60) 22 2 (.int .i64 0) 8 rfl Try.underlying22 info2 rfl (by decide) (by omega) u1374001 x1374001_2 (Int.tmod t1376 a1) [.int .i64 (Int.tmod t1376 a1)] (fun k_ => some k_ ≠ (u1374002 : Value).ownBlock) (fun _ => False) rfl rfl ?aP (fun _ hk => hk.elim) ?aF ?aO ?aB ?aS ?aL ?_
              (case aP => exact rfl)
              (case aB => exact ZB)
              (case aF => exact (fun k_ hk => Kd.fresh' (Kd.R_lt (ZR HO_1374002)) k_ hk))
              (case aO => exact (ZR HO_1374001))
              (case aS => exact (below_size ZB))
              (case aL => have := LMc32.out; omega)
              intro v1378 w36 ho hb hg hat
              rw [← Ny1377.out] at ho
              have n0_ := Aside0.mk (Kd.R_after (ok := (fun _ => True)) (by refine ZQ ?_; exact Kd.R_mono HO_1374002.out (fun _ hk => (And.intro (trivial) (hk)))) hg hat)
              have n1_ := Aside0.mk (blk_grown (ZK BK1363) hg (Kd.R_ne HO_1374001.out BK1363.out (by decide)))
              have n2_ := Aside0.mk (blk_grown (ZK BK1373) hg (Kd.R_ne HO_1374001.out BK1373.out (by decide)))
              have n3_ := Aside0.mk (hb)
              have n4_ := Aside0.mk (ho)
              clear HO_1374002
              clear BK1363
              clear BK1373
              clear HB
              clear HO_1374001
              have HO_1374002 := n0_
              have BK1363 := n1_
              have BK1373 := n2_
              have HB := n3_
              have HO1379 := n4_
              clear n0_ n1_ n2_ n3_ n4_
              clear ho hb hg hat
              obtain ⟨Ao37, co37, eo37⟩ := Kd.R_slice HO1379.out
              (first | subst eo37 | (injection eo37 with f1_ f2_ f3_; have f4_ := f1_.symm; have f5_ := f3_.symm; clear f1_ f2_ f3_; subst f4_; subst f5_))
              refine hK.out _ _ ⟨(blk_cell BK1373.out 0).trans rfl, (blk_cell BK1373.out 1).trans rfl, (blk_cell BK1373.out 2).trans rfl⟩ (fun hHeld => ?_)
              clear hK K
              refine norm_ (a' := ?_) ?_ ?_
              rotate_left
              ·show Act.put _ (some 61) _ = _
               simp only [Act.put, List.setIfInBounds_toArray, List.set_cons_zero, List.set_cons_succ, i64_w, i32_w]
               rfl
              refine Zpt 9 (some 62) (h := ?_)
              refine last_ (i := 10) (N := none) #[true, true, true, true, true, true, true, true, true, true, true] rfl rfl (one_of HT_.out (by kernel_rfl)) (by decide) (fun K hK => ?_)
              have hs38 : w36.cell? ⟨gb1373, 1, none⟩ = some (u1374001) := (blk_cell BK1373.out 1).trans rfl
              have hfs38 := blk_frozen BK1373.out 1
              have hns38_0 := NB1363_1373.out
              have hms38_0 := NB1373_1363.out
              refine skip_ (w1 := ?_) (by rfl) rfl ?_ ?_
              rotate_left
              ·go_simp
               rfl
              refine hK.out _ _ ?_
              clear hK K
              refine done_ (done_of HT_.out (by kernel_rfl)) ?_
              try go_wp2
              have n0_ : Aside0 (Kd.R (Kd.int .i64) 2 (w36.setCell ⟨gb1373, 1, none⟩ (.slice Ao37 y1377.length co37)) w.heap.size (fun k_ => some k_ ≠ (.slice Ao37 y1377.length co37 : Value).ownBlock) u1374002 x1374002_2) := ⟨by refine ZQ ?_; exact Kd.R_mono (Kd.R_far (p := ⟨gb1373, 1, none⟩) (Kd.R_types HO_1374002.out BK1373.out (by decide)) (fun _ hk => hk.2) (.slice Ao37 y1377.length co37)) (fun _ hk => hk.1.2)⟩
              have n1_ : Aside0 (Kd.R (Kd.int .i64) 2 (w36.setCell ⟨gb1373, 1, none⟩ (.slice Ao37 y1377.length co37)) w.heap.size (fun k_ => some k_ ≠ (u1374002 : Value).ownBlock) (.slice Ao37 y1377.length co37) y1377) := ⟨by refine ZQ ?_; exact Kd.R_mono (Kd.R_far (p := ⟨gb1373, 1, none⟩) (Kd.R_types HO1379.out BK1373.out (by decide)) (fun _ hk => hk.2) (.slice Ao37 y1377.length co37)) (fun _ hk => hk.1)⟩
              have n2_ : Aside0 ((w36.setCell ⟨gb1373, 1, none⟩ (.slice Ao37 y1377.length co37)).heap[gb1363]? = some (.cells #[.int .i64 x1364000_2, .slice none 0 0, .slice none 0 0] 29 (0, 0))) := ⟨by refine ZS ?_; refine blk_far ?_ NB1363_1373.out _; refine ZS ?_; exact BK1363.out⟩
              have n3_ : Aside0 ((w36.setCell ⟨gb1373, 1, none⟩ (.slice Ao37 y1377.length co37)).heap[gb1373]? = some (.cells #[.int .i64 a1, .slice Ao37 y1377.length co37, u1374002] 29 (0, 0))) := ⟨by refine ZS ?_; refine blk_put (cs := #[.int .i64 a1, u1374001, u1374002]) ?_ 1 _ rfl; refine ZS ?_; exact BK1373.out⟩
              have n4_ : Aside0 (Below w.heap.size w (w36.setCell ⟨gb1373, 1, none⟩ (.slice Ao37 y1377.length co37))) := ⟨ZB⟩
              (try clear HO_1374002)
              (try clear HO1379)
              (try clear BK1363)
              (try clear BK1373)
              (try clear HB)
              generalize (w36.setCell ⟨gb1373, 1, none⟩ (.slice Ao37 y1377.length co37)) = w39 at n0_ n1_ n2_ n3_ n4_ ⊢
              have HO_1374002 := n0_
              have HO1379 := n1_
              have BK1363 := n2_
              have BK1373 := n3_
              have HB := n4_
              clear n0_ n1_ n2_ n3_ n4_
              have n0_ := Aside0.mk (Kd.R_drew HO_1374002.out)
              have n1_ := Aside0.mk (Kd.R_drew HO1379.out)
              have n2_ := Aside0.mk (blk_drew BK1363.out)
              have n3_ := Aside0.mk (blk_drew BK1373.out)
              have n4_ := Aside0.mk (below_drew1 HB.out)
              clear HO_1374002
              clear HO1379
              clear BK1363
              clear BK1373
              clear HB
              have HO_1374002 := n0_
              have HO1379 := n1_
              have BK1363 := n2_
              have BK1373 := n3_
              have HB := n4_
              clear n0_ n1_ n2_ n3_ n4_
              refine start_ (n := 17) (S := fun w' => w'.cell? ⟨gb1373, 0, none⟩ = some (.int .i64 a1) ∧ w'.cell? ⟨gb1373, 1, none⟩ = some (.slice Ao37 y1377.length co37) ∧ w'.cell? ⟨gb1373, 2, none⟩ = some (u1374002)) (ds := [16]) #[false, false, false, false, false, false, false, false, false, false, false, false, false, false, false, false, false] (by kernel_rfl) rfl rfl ⟨(blk_cell BK1373.out 0).trans rfl, (blk_cell BK1373.out 1).trans rfl, (blk_cell BK1373.out 2).trans rfl⟩ (fun hHeld => ?_); refine with_tabW spec_NamedJacobi.tab13 spec_NamedJacobi.bits13 (fun HT_ HW_ => ?_)
              generalize w39.drew = w40 at HO_1374002 HO1379 BK1363 BK1373 HB hHeld ⊢
              refine Zpt 0 (some 63) (h := ?_)
              refine Zpt 2 (some 65) (h := ?_)
              refine Zpt 3 (some 66) (h := ?_)
              refine Zpt 4 (some 67) (h := ?_)
              refine Zpt 5 (some 68) (h := ?_)
              refine Zpt 6 (some 69) (h := ?_)
              refine Zpt 7 (some 70) (h := ?_)
              refine Zpt 8 (some 71) (h := ?_)
              refine Zpt 11 (some 74) (h := ?_)
              refine ZtW3 1 (some 64) hHeld (h := ?_)
              refine one_ (i := 9) (N := some 72) #[true, true, true, true, true, true, true, true, true, true, false, true, false, false, false, false, false] rfl rfl (one_of HT_.out (by kernel_rfl)) (by decide) (fun K hK => ?_)
              refine goes_ Try.func100 (by kernel_rfl) rfl #[.int .i64 a1, .int .i64 (Int.tmod t1375 a1)] (by rfl) rfl rfl ZA ?_
              with_reducible refine (spec_l01Inverse.calls kj23 a1 (Int.tmod t1375 a1) t1380 _ A33.out).mono ?_
              rintro e w' ⟨rfl, ⟨nd, rfl⟩⟩
              refine ⟨_, rfl, ?_⟩
              refine hK.out _ _ ⟨(blk_cell BK1373.out 0).trans rfl, (blk_cell BK1373.out 1).trans rfl, (blk_cell BK1373.out 2).trans rfl⟩ (fun hHeld => ?_)
              clear hK K
              refine norm_ (a' := ?_) ?_ ?_
              rotate_left
              ·show Act.put _ (some 72) _ = _
               simp only [Act.put, List.setIfInBounds_toArray, List.set_cons_zero, List.set_cons_succ, i64_w, i32_w]
               rfl
              refine Zpt 10 (some 73) (h := ?_)
              refine Zpt 12 (some 75) (h := ?_)
              refine one_ (i := 13) (N := some 76) #[true, true, true, true, true, true, true, true, true, true, true, true, true, true, false, false, false] rfl rfl (one_of HT_.out (by kernel_rfl)) (by decide) (fun K hK => ?_)
              refine value_ (w1 := ?_) (v := ?_) (by rfl) rfl ?_ ?_
              rotate_left 2
              ·go_simp
               constructor
               ·rfl
               ·rfl
              refine hK.out _ _ ⟨(blk_cell (blk_alloc BK1373.out _) 0).trans rfl, (blk_cell (blk_alloc BK1373.out _) 1).trans rfl, (blk_cell (blk_alloc BK1373.out _) 2).trans rfl⟩ (fun hHeld => ?_)
              clear hK K
              refine norm_ (a' := ?_) ?_ ?_
              rotate_left
              ·show Act.put _ (some 76) _ = _
               simp only [Act.put, List.setIfInBounds_toArray, List.set_cons_zero, List.set_cons_succ, i64_w, i32_w]
               rfl
              refine one_ (i := 14) (N := some 77) #[true, true, true, true, true, true, true, true, true, true, true, true, true, true, true, false, false] rfl rfl (one_of HT_.out (by kernel_rfl)) (by decide) (fun K hK => ?_)
              refine Kd.R_append_step (Kd.int .i64) (w0 := w) w.heap.size (by rfl) (.tmp 64) (.tmp 76) 22 2 (.int .i64 0) 8 rfl Try.underlying22 info2 rfl (by decide) (by omega) u1374002 x1374002_2 (Int.tmod (wrap64 ((Int.tmod t1374 a1) * t1380)) a1) [.int .i64 (Int.tmod (wrap64 ((Int.tmod t1374 a1) * t1380)) a1)] (fun k_ => some k_ ≠ (.slice Ao37 y1377.length co37 : Value).ownBlock) (fun _ => False) rfl rfl ?aP (fun _ hk => hk.elim) ?aF ?aO ?aB ?aS ?aL ?_
              (case aP => exact rfl)
              (case aB => exact ZB)
              (case aF => exact (fun k_ hk => Kd.fresh' (Kd.R_lt (ZR HO1379)) k_ hk))
              (case aO => exact (ZR HO_1374002))
              (case aS => exact (below_size ZB))
              (case aL => have := LMc34.out; omega)
              intro v1382 w41 ho hb hg hat
              rw [← Ny1381.out] at ho
              have n0_ := Aside0.mk (blk_grown (ZK BK1363) hg (Kd.R_ne HO_1374002.out BK1363.out (by decide)))
              have n1_ := Aside0.mk (blk_grown (ZK BK1373) hg (Kd.R_ne HO_1374002.out BK1373.out (by decide)))
              have n2_ := Aside0.mk (Kd.R_after (ok := (fun _ => True)) (by refine ZQ ?_; exact Kd.R_mono HO1379.out (fun _ hk => (And.intro (trivial) (hk)))) hg hat)
              have n3_ := Aside0.mk (hb)
              have n4_ := Aside0.mk (ho)
              clear BK1363
              clear BK1373
              clear HO1379
              clear HB
              clear HO_1374002
              have BK1363 := n0_
              have BK1373 := n1_
              have HO1379 := n2_
              have HB := n3_
              have HO1383 := n4_
              clear n0_ n1_ n2_ n3_ n4_
              clear ho hb hg hat
              obtain ⟨Ao42, co42, eo42⟩ := Kd.R_slice HO1383.out
              (first | subst eo42 | (injection eo42 with f1_ f2_ f3_; have f4_ := f1_.symm; have f5_ := f3_.symm; clear f1_ f2_ f3_; subst f4_; subst f5_))
              refine hK.out _ _ ⟨(blk_cell BK1373.out 0).trans rfl, (blk_cell BK1373.out 1).trans rfl, (blk_cell BK1373.out 2).trans rfl⟩ (fun hHeld => ?_)
              clear hK K
              refine norm_ (a' := ?_) ?_ ?_
              rotate_left
              ·show Act.put _ (some 77) _ = _
               simp only [Act.put, List.setIfInBounds_toArray, List.set_cons_zero, List.set_cons_succ, i64_w, i32_w]
               rfl
              refine Zpt 15 (some 78) (h := ?_)
              refine last_ (i := 16) (N := none) #[true, true, true, true, true, true, true, true, true, true, true, true, true, true, true, true, true] rfl rfl (one_of HT_.out (by kernel_rfl)) (by decide) (fun K hK => ?_)
              have hs43 : w41.cell? ⟨gb1373, 2, none⟩ = some (u1374002) := (blk_cell BK1373.out 2).trans rfl
              have hfs43 := blk_frozen BK1373.out 2
              have hns43_0 := NB1363_1373.out
              have hms43_0 := NB1373_1363.out
              refine skip_ (w1 := ?_) (by rfl) rfl ?_ ?_
              rotate_left
              ·go_simp
               rfl
              refine hK.out _ _ ?_
              clear hK K
              refine done_ (done_of HT_.out (by kernel_rfl)) ?_
              try go_wp2
              go_roundg kj23
              case measure => have := HJ3.out; have := HK2.out; have := HJ23.out; omega
              case rel => exact ⟨(wrap64 (x9_2 + 1)), (x1364000_2), (y1377), (y1381), (.slice Ao37 y1377.length co37), (.slice Ao42 y1381.length co42), (by first | rfl | (simp; done) | (simp [*]; done)), H', ⟨by have := HJ3.out; have := HK2.out; have := HJ23.out; omega⟩, ⟨by refine ZQ ?_; exact Kd.R_mono (Kd.R_far (p := ⟨gb1373, 2, none⟩) (Kd.R_types HO1379.out BK1373.out (by decide)) (fun _ hk => hk.2) (.slice Ao42 y1381.length co42)) (fun _ hk => hk.1.2)⟩, ⟨by refine ZQ ?_; exact Kd.R_mono (Kd.R_far (p := ⟨gb1373, 2, none⟩) (Kd.R_types HO1383.out BK1373.out (by decide)) (fun _ hk => hk.2) (.slice Ao42 y1381.length co42)) (fun _ hk => hk.1)⟩, ⟨by refine ZS ?_; refine blk_far ?_ NB1363_1373.out _; refine ZS ?_; exact BK1363.out⟩, ⟨by refine ZS ?_; refine blk_put (cs := #[.int .i64 a1, .slice Ao37 y1377.length co37, u1374002]) ?_ 2 _ rfl; refine ZS ?_; exact BK1373.out⟩, ⟨ZB⟩⟩
             ·rw [if_neg c34] at H
              exact absurd H (by simp)
            ·rw [if_neg c32] at H
             exact absurd H (by simp)
       ·rw [if_neg c22] at H
        have c22b0 : decide (x9_2 < a2) = false := decide_eq_false c22
        clear c22
        simp only [Option.some.injEq, Prod.mk.injEq] at H
        obtain ⟨rfl, rfl, rfl, rfl⟩ := H
        have hnb44 := NB1373_1363.out
        have hnc44 := NB1363_1373.out
        obtain ⟨hcz45_0, hcz45_1, hcz45_2, hfz45_0, hfz45_1, hfz45_2⟩ := ZD3 BK1373
        obtain ⟨hcz46_0, hcz46_1, hcz46_2, hfz46_0, hfz46_1, hfz46_2⟩ := ZD3 BK1363
        obtain ⟨Ao47, co47, eo47⟩ := Kd.R_slice HO_1374001.out
        subst eo47
        obtain ⟨Ao48, co48, eo48⟩ := Kd.R_slice HO_1374002.out
        subst eo48
        go_wp2
        refine bodyPost_ret (results_ct rfl _ _ gb1363 29 #[.int .i64 a1, .slice Ao47 x1374001_2.length co47, .slice Ao48 x1374002_2.length co48] (0, 0) _ rfl (by refine ZS ?_; refine blk_put (cs := #[.int .i64 a1, .slice Ao47 x1374001_2.length co47, .slice none 0 0]) ?_ 2 _ rfl; refine ZS ?_; refine blk_put (cs := #[.int .i64 a1, .slice none 0 0, .slice none 0 0]) ?_ 1 _ rfl; refine ZS ?_; refine blk_put (cs := #[.int .i64 x1364000_2, .slice none 0 0, .slice none 0 0]) ?_ 0 _ rfl; refine ZS ?_; exact BK1363.out) Try.underlying29 rfl (by kernel_rfl)) rfl ?_
        exact ⟨_, _, by first | rfl | (simp [errW_none, errW_some] <;> rfl) | (simp [*, errW_none, errW_some] <;> rfl), by refine ZQ ?_; exact Kd.R_mono (Kd.R_far (p := ⟨gb1363, 2, none⟩) (Kd.R_far (p := ⟨gb1363, 1, none⟩) (Kd.R_far (p := ⟨gb1363, 0, none⟩) (Kd.R_types HO_1374001.out BK1363.out (by decide)) (fun _ hk => hk.2) (.int .i64 a1)) (fun _ hk => hk.2) (.slice Ao47 x1374001_2.length co47)) (fun _ hk => hk.2) (.slice Ao48 x1374002_2.length co48)) (fun _ hk => hk.1), by refine ZQ ?_; exact Kd.R_mono (Kd.R_far (p := ⟨gb1363, 2, none⟩) (Kd.R_far (p := ⟨gb1363, 1, none⟩) (Kd.R_far (p := ⟨gb1363, 0, none⟩) (Kd.R_types HO_1374002.out BK1363.out (by decide)) (fun _ hk => hk.2) (.int .i64 a1)) (fun _ hk => hk.2) (.slice Ao47 x1374001_2.length co47)) (fun _ hk => hk.2) (.slice Ao48 x1374002_2.length co48)) (fun _ hk => hk.1), ZB⟩
    ·replace c12 := Bool.eq_false_iff.mpr c12
     subst c12
     have H1 : (some (0, ([] : List Int), ([] : List Int), 4)) = some (r1, r2, r3, r4) := by rw [if_neg (show ¬ (false = true) by decide)] at H; exact H
     clear H
     have H := H1
     clear H1
     simp only [Option.some.injEq, Prod.mk.injEq] at H
     obtain ⟨rfl, rfl, rfl, rfl⟩ := H
     go_wp2_with (first | ((with_reducible refine gate_callee (f := 132) rfl ?_); refine goesL_ (some 24) rfl rfl Try.func132 (by kernel_rfl) rfl #[.string a0] rfl ZA ?_; (with_reducible refine (spec_l10Known.calls a0 false _ A11.out).mono ?_); rintro e w' ⟨rfl, ⟨nd, rfl⟩⟩; refine ⟨_, rfl, ?_⟩; (try (rw [drewN_self wc]; generalize hq_ : World.drewN wc _ = wc; have n0_ : Aside0 (wc.heap[gb1363]? = some (.cells #[.int .i64 0, .slice none 0 0, .slice none 0 0] 29 (0, 0))) := ⟨by rw [← hq_]; exact (ZK BK1363)⟩; have n1_ : Aside0 (Below w.heap.size w wc) := ⟨by rw [← hq_]; exact ZB⟩; clear BK1363 HB hq_; have BK1363 := n0_; have HB := n1_; clear n0_ n1_)); (try (obtain ⟨hcy1363_0, hcy1363_1, hcy1363_2, hfy1363_0, hfy1363_1, hfy1363_2⟩ := ZD3 BK1363)); obtain ⟨hcz49_0, hcz49_1, hcz49_2, hfz49_0, hfz49_1, hfz49_2⟩ := ZD3 BK1363))
     refine bodyPost_ret (results_ct rfl _ _ gb1363 29 #[.int .i64 0, .slice none 0 0, .slice none 0 0] (0, 0) _ rfl (by refine ZS ?_; refine blk_put (cs := #[.int .i64 0, .slice none 0 0, .slice none 0 0]) ?_ 2 _ rfl; refine ZS ?_; refine blk_put (cs := #[.int .i64 0, .slice none 0 0, .slice none 0 0]) ?_ 1 _ rfl; refine ZS ?_; refine blk_put (cs := #[.int .i64 0, .slice none 0 0, .slice none 0 0]) ?_ 0 _ rfl; refine ZS ?_; exact BK1363.out) Try.underlying29 rfl (by kernel_rfl)) rfl ?_
     exact ⟨_, _, by first | rfl | (simp [errW_none, errW_some] <;> rfl) | (simp [*, errW_none, errW_some] <;> rfl), by first | exact Kd.R_nil _ _ _ _ _ | exact Kd.N_nil _ _ _ _ _ | exact Kd.V_nil _ _ _ _ _ | exact Kd.Q_nil _ _ _ _ _ | exact Kd.S_nil _ _ _ _ _, by first | exact Kd.R_nil _ _ _ _ _ | exact Kd.N_nil _ _ _ _ _ | exact Kd.V_nil _ _ _ _ _ | exact Kd.Q_nil _ _ _ _ _ | exact Kd.S_nil _ _ _ _ _, ZB⟩

/-! ### spec_l11For: function 115 -/
def spec_l11For.f (k : Nat) (a0 : Int) : Option (Int × List Int × Int × List Int × List Int × List Int × Int) := (spec_NamedMoments.f k (⟨#[99, 97, 116, 97, 108, 97, 110]⟩ : ByteArray) a0 8).bind fun bt1385 => ((spec_NamedJacobi.f k (⟨#[99, 97, 116, 97, 108, 97, 110]⟩ : ByteArray) a0 4).bind fun bt1391 => (if bt1385.2.2 = 0 then (if bt1391.2.2.2 = 0 then (some (bt1385.1, bt1385.2.1, bt1391.1, bt1391.2.1, bt1391.2.2.1, (([0, 1] : List Int)), 0)) else (some (0, ([] : List Int), 0, ([] : List Int), ([] : List Int), ([] : List Int), mx bt1385.2.2 bt1391.2.2.2))) else (some (0, ([] : List Int), 0, ([] : List Int), ([] : List Int), ([] : List Int), mx bt1385.2.2 bt1391.2.2.2))))
theorem spec_l11For.mono : ∀ a0 k, LeO (spec_l11For.f k a0) (spec_l11For.f (k + 1) a0) := by
 intro a0 k
 unfold spec_l11For.f
 repeat' first
   | (with_reducible exact spec_NamedJacobi.mono _ _ _ _)
   | (with_reducible exact spec_NamedMoments.mono _ _ _ _)
   | (with_reducible exact LeO.refl _)
   | (with_reducible exact LeO.none _)
   | (with_reducible refine LeO.ite ?_ ?_)
   | (with_reducible refine LeO.bind ?_ (fun _ => ?_))
   | exact spec_NamedJacobi.mono _ _ _ _
   | exact spec_NamedMoments.mono _ _ _ _
   | exact LeO.none _
   | refine LeO.ite ?_ ?_
   | refine LeO.bind ?_ (fun _ => ?_)
set_option maxHeartbeats 8000000 in
set_option maxRecDepth 100000 in
theorem spec_l11For.calls (k : Nat) (a0 : Int) (r1 : Int) (r2 : List Int) (r3 : Int) (r4 : List Int) (r5 : List Int) (r6 : List Int) (r7 : Int) (w : World) (h : spec_l11For.f k a0 = some (r1, r2, r3, r4, r5, r6, r7)) :
  Calls Try.prog 115 #[.int .i64 a0] w fun e w' => ∃ v1_ v3_ v4_ v5_ : Value, e = .returned (.tuple #[.agg #[.int .i64 r1, v1_, .int .i64 r3, v3_, v4_, v5_], .int .i64 r7]) ∧ Kd.R (Kd.int .i64) 2 w' w.heap.size (fun k_ => some k_ ≠ (v3_ : Value).ownBlock ∧ some k_ ≠ (v4_ : Value).ownBlock ∧ some k_ ≠ (v5_ : Value).ownBlock) v1_ r2 ∧ Kd.R (Kd.int .i64) 2 w' w.heap.size (fun k_ => some k_ ≠ (v1_ : Value).ownBlock ∧ some k_ ≠ (v4_ : Value).ownBlock ∧ some k_ ≠ (v5_ : Value).ownBlock) v3_ r4 ∧ Kd.R (Kd.int .i64) 2 w' w.heap.size (fun k_ => some k_ ≠ (v1_ : Value).ownBlock ∧ some k_ ≠ (v3_ : Value).ownBlock ∧ some k_ ≠ (v5_ : Value).ownBlock) v4_ r5 ∧ Kd.R (Kd.int .i64) 2 w' w.heap.size (fun k_ => some k_ ≠ (v1_ : Value).ownBlock ∧ some k_ ≠ (v3_ : Value).ownBlock ∧ some k_ ≠ (v4_ : Value).ownBlock) v5_ r6 ∧ Below w.heap.size w w' := by
 have hu61 := Try.underlying61
 have hu59 := Try.underlying59
 have hu29 := Try.underlying29
 have HB := Aside0.mk (Below.refl w.heap.size w)
 have H : ((spec_NamedMoments.f k (⟨#[99, 97, 116, 97, 108, 97, 110]⟩ : ByteArray) a0 8).bind fun bt1385 => ((spec_NamedJacobi.f k (⟨#[99, 97, 116, 97, 108, 97, 110]⟩ : ByteArray) a0 4).bind fun bt1391 => (if bt1385.2.2 = 0 then (if bt1391.2.2.2 = 0 then (some (bt1385.1, bt1385.2.1, bt1391.1, bt1391.2.1, bt1391.2.2.1, (([0, 1] : List Int)), 0)) else (some (0, ([] : List Int), 0, ([] : List Int), ([] : List Int), ([] : List Int), mx bt1385.2.2 bt1391.2.2.2))) else (some (0, ([] : List Int), 0, ([] : List Int), ([] : List Int), ([] : List Int), mx bt1385.2.2 bt1391.2.2.2))))) = some (r1, r2, r3, r4, r5, r6, r7) := h
 clear h
 replace H := Option.bind_eq_some_iff.mp H
 obtain ⟨⟨t1385, t1386, t1389⟩, A20, H⟩ := H
 replace H : ((spec_NamedJacobi.f k (⟨#[99, 97, 116, 97, 108, 97, 110]⟩ : ByteArray) a0 4).bind fun bt1391 => (if t1389 = 0 then (if bt1391.2.2.2 = 0 then (some (t1385, t1386, bt1391.1, bt1391.2.1, bt1391.2.2.1, (([0, 1] : List Int)), 0)) else (some (0, ([] : List Int), 0, ([] : List Int), ([] : List Int), ([] : List Int), mx t1389 bt1391.2.2.2))) else (some (0, ([] : List Int), 0, ([] : List Int), ([] : List Int), ([] : List Int), mx t1389 bt1391.2.2.2)))) = some (r1, r2, r3, r4, r5, r6, r7) := H
 have A2 := Aside0.mk A20
 clear A20
 replace H := Option.bind_eq_some_iff.mp H
 obtain ⟨⟨t1391, t1392, t1395, t1398⟩, A30, H⟩ := H
 replace H : (if t1389 = 0 then (if t1398 = 0 then (some (t1385, t1386, t1391, t1392, t1395, (([0, 1] : List Int)), 0)) else (some (0, ([] : List Int), 0, ([] : List Int), ([] : List Int), ([] : List Int), mx t1389 t1398))) else (some (0, ([] : List Int), 0, ([] : List Int), ([] : List Int), ([] : List Int), mx t1389 t1398))) = some (r1, r2, r3, r4, r5, r6, r7) := H
 have A3 := Aside0.mk A30
 clear A30
 by_cases c4 : t1389 = 0
 ·rw [if_pos c4] at H
  have c4b0 : (t1389 == 0) = true := beq_iff_eq.mpr c4
  have c4b1 : (t1389 != 0) = false := bne_eq_false_iff_eq.mpr c4
  clear c4
  by_cases c5 : t1398 = 0
  ·rw [if_pos c5] at H
   have c5b0 : (t1398 == 0) = true := beq_iff_eq.mpr c5
   have c5b1 : (t1398 != 0) = false := bne_eq_false_iff_eq.mpr c5
   clear c5
   obtain ⟨y1400, hy1400⟩ : ∃ y_ : List Int, y_ = (([0, 1] : List Int)) := ⟨_, rfl⟩
   replace H : (some (t1385, t1386, t1391, t1392, t1395, y1400, 0)) = some (r1, r2, r3, r4, r5, r6, r7) := by first | (rw [hy1400]; with_reducible exact H) | (have H2_ := (Option.bind_some _ _).symm.trans H; rw [hy1400]; with_reducible exact H2_) | (have H2_ := (Option.bind_some _ _).symm.trans H; with_reducible exact H2_) | with_reducible exact H | (rw [hy1400]; exact H) | exact H
   have Ny1400 := Aside0.mk hy1400
   clear hy1400
   simp only [Option.some.injEq, Prod.mk.injEq] at H
   obtain ⟨rfl, rfl, rfl, rfl, rfl, rfl, rfl⟩ := H
   go_enter Try.func115, Try.ntmps115
   go_wp2_with (first | ((with_reducible refine gate_dst (N := 2) rfl ?_); refine box_event ?hg (N := 2) ?hd (cs := #[.int .i64 0, .slice none 0 0, .int .i64 0, .slice none 0 0, .slice none 0 0, .slice none 0 0]) (t := 61) ?hr ?_; (case hd => rfl); (case hg => rfl); (case hr => first | (go_simp; done) | (go_simp; rfl)); intro gb1384 hg w6 hbox hb; have n0_ := Aside0.mk (below_step ZB hb); have n1_ := Aside0.mk (hbox); have n2_ := Aside0.mk ((ZG hg : w.heap.size ≤ gb1384)); have n3_ := Aside0.mk ((ZG hg : w.heap.size ≤ gb1384)); clear HB; have HB := n0_; have BK1384 := n1_; have GW1384 := n2_; have GE1384 := n3_; clear n0_ n1_ n2_ n3_; clear hb hbox hg) | ((with_reducible refine gate_callee (f := 123) rfl ?_); refine goesL_ (some 10) rfl rfl Try.func123 (by kernel_rfl) rfl #[.string (⟨#[99, 97, 116, 97, 108, 97, 110]⟩ : ByteArray), .int .i64 a0, .int .i64 8] rfl ZA ?_; (with_reducible refine (spec_NamedMoments.calls k (⟨#[99, 97, 116, 97, 108, 97, 110]⟩ : ByteArray) a0 8 t1385 t1386 t1389 _ A2.out).mono ?_); rintro e w7 ⟨v1387, rfl, ho0, hb⟩; refine ⟨_, rfl, ?_⟩; have n0_ := Aside0.mk (Kd.R_lower ho0 (below_size ZB)); have n1_ := ZL BK1384 hb; have n2_ := Aside0.mk (below_step ZB hb); clear BK1384; clear HB; have HO1388 := n0_; have BK1384 := n1_; have HB := n2_; clear n0_ n1_ n2_; (try clear hb); (try clear hb2); (try clear hk); (try clear hi); (try clear ho0)) | ((with_reducible refine gate_dst (N := 4) rfl ?_); refine box_event ?hg (N := 4) ?hd (cs := #[.int .i64 0, .slice none 0 0]) (t := 59) ?hr ?_; (case hd => rfl); (case hg => rfl); (case hr => first | (go_simp; done) | (go_simp; rfl)); intro gb1390 hg w8 hbox hb; have n0_ := Aside0.mk (Kd.R_below (ZR HO1388) hb); have n1_ := ZL BK1384 hb; have n2_ := Aside0.mk (below_step ZB hb); have n3_ := Aside0.mk (hbox); have n4_ := Aside0.mk ((ZG hg : w.heap.size ≤ gb1390)); have n5_ := Aside0.mk ((ZG hg : w.heap.size ≤ gb1390)); have n6_ := Aside0.mk ((ZN hg BK1384 : gb1384 ≠ gb1390)); have n7_ := Aside0.mk ((ZM hg BK1384 : gb1390 ≠ gb1384)); clear HO1388; clear BK1384; clear HB; have HO1388 := n0_; have BK1384 := n1_; have HB := n2_; have BK1390 := n3_; have GW1390 := n4_; have GE1390 := n5_; have NB1384_1390 := n6_; have NB1390_1384 := n7_; clear n0_ n1_ n2_ n3_ n4_ n5_ n6_ n7_; clear hb hbox hg; have hnb9 := NB1390_1384.out; have hnc9 := NB1384_1390.out; obtain ⟨hcz10_0, hcz10_1, hfz10_0, hfz10_1⟩ := ZD2 BK1390; obtain ⟨Ao11, co11, eo11⟩ := Kd.R_slice HO1388.out; subst eo11) | ((with_reducible refine gate_callee (f := 124) rfl ?_); refine goesL_ (some 15) rfl rfl Try.func124 (by kernel_rfl) rfl #[.string (⟨#[99, 97, 116, 97, 108, 97, 110]⟩ : ByteArray), .int .i64 a0, .int .i64 4] rfl ZA ?_; (with_reducible refine (spec_NamedJacobi.calls k (⟨#[99, 97, 116, 97, 108, 97, 110]⟩ : ByteArray) a0 4 t1391 t1392 t1395 t1398 _ A3.out).mono ?_); rintro e w12 ⟨v1393, v1396, rfl, ho0, ho1, hb⟩; refine ⟨_, rfl, ?_⟩; have n0_ := Aside0.mk (Kd.R_mono (Kd.R_told (Kd.R_told (Kd.R_old (ZQ (ZF2 HO1388 BK1390 (.int .i64 t1385) (.slice Ao11 t1386.length co11))) hb) (Kd.R_base ho0)) (Kd.R_base ho1)) (fun _ h_ => h_.1)); have n1_ := Aside0.mk (Kd.R_lower (Kd.R_new' ho0 (Kd.R_lt (ZQ (ZF2 HO1388 BK1390 (.int .i64 t1385) (.slice Ao11 t1386.length co11))))) (below_size ZB)); have n2_ := Aside0.mk (Kd.R_lower (Kd.R_new' ho1 (Kd.R_lt (ZQ (ZF2 HO1388 BK1390 (.int .i64 t1385) (.slice Ao11 t1386.length co11))))) (below_size ZB)); have n3_ := Aside0.mk (blk_below (g := gb1384) (o := .cells #[.int .i64 0, .slice none 0 0, .int .i64 0, .slice none 0 0, .slice none 0 0, .slice none 0 0] 61 (0, 0)) (by refine ZS ?_; refine blk_far ?_ NB1384_1390.out _; refine ZS ?_; refine blk_far ?_ NB1384_1390.out _; refine ZS ?_; exact BK1384.out) hb); have n4_ := Aside0.mk (blk_below (g := gb1390) (o := .cells #[.int .i64 t1385, .slice Ao11 t1386.length co11] 59 (0, 0)) (by refine ZS ?_; refine blk_put (cs := #[.int .i64 t1385, .slice none 0 0]) ?_ 1 _ rfl; refine ZS ?_; refine blk_put (cs := #[.int .i64 0, .slice none 0 0]) ?_ 0 _ rfl; refine ZS ?_; exact BK1390.out) hb); have n5_ := Aside0.mk (below_step ZB hb); clear HO1388; clear BK1384; clear BK1390; clear HB; have HO1388 := n0_; have HO1394 := n1_; have HO1397 := n2_; have BK1384 := n3_; have BK1390 := n4_; have HB := n5_; clear n0_ n1_ n2_ n3_ n4_ n5_; (try clear hb); (try clear hb2); (try clear hk); (try clear hi); (try clear ho0); (try clear ho1)) | ((with_reducible refine gate_dst (N := 6) rfl ?_); refine box_event ?hg (N := 6) ?hd (cs := #[.int .i64 0, .slice none 0 0, .slice none 0 0]) (t := 29) ?hr ?_; (case hd => rfl); (case hg => rfl); (case hr => first | (go_simp; done) | (go_simp; rfl)); intro gb1399 hg w13 hbox hb; have n0_ := Aside0.mk (Kd.R_below (ZR HO1388) hb); have n1_ := Aside0.mk (Kd.R_below (ZR HO1394) hb); have n2_ := Aside0.mk (Kd.R_below (ZR HO1397) hb); have n3_ := ZL BK1384 hb; have n4_ := ZL BK1390 hb; have n5_ := Aside0.mk (below_step ZB hb); have n6_ := Aside0.mk (hbox); have n7_ := Aside0.mk ((ZG hg : w.heap.size ≤ gb1399)); have n8_ := Aside0.mk ((ZG hg : w.heap.size ≤ gb1399)); have n9_ := Aside0.mk ((ZN hg BK1384 : gb1384 ≠ gb1399)); have n10_ := Aside0.mk ((ZM hg BK1384 : gb1399 ≠ gb1384)); have n11_ := Aside0.mk ((ZN hg BK1390 : gb1390 ≠ gb1399)); have n12_ := Aside0.mk ((ZM hg BK1390 : gb1399 ≠ gb1390)); clear HO1388; clear HO1394; clear HO1397; clear BK1384; clear BK1390; clear HB; have HO1388 := n0_; have HO1394 := n1_; have HO1397 := n2_; have BK1384 := n3_; have BK1390 := n4_; have HB := n5_; have BK1399 := n6_; have GW1399 := n7_; have GE1399 := n8_; have NB1384_1399 := n9_; have NB1399_1384 := n10_; have NB1390_1399 := n11_; have NB1399_1390 := n12_; clear n0_ n1_ n2_ n3_ n4_ n5_ n6_ n7_ n8_ n9_ n10_ n11_ n12_; clear hb hbox hg; have hnb14 := NB1399_1384.out; have hnc14 := NB1384_1399.out; have hnb15 := NB1399_1390.out; have hnc15 := NB1390_1399.out; obtain ⟨hcz16_0, hcz16_1, hcz16_2, hfz16_0, hfz16_1, hfz16_2⟩ := ZD3 BK1399; obtain ⟨Ao17, co17, eo17⟩ := Kd.R_slice HO1394.out; subst eo17; obtain ⟨Ao18, co18, eo18⟩ := Kd.R_slice HO1397.out; subst eo18; obtain ⟨hcz19_0, hcz19_1, hfz19_0, hfz19_1⟩ := ZD2 BK1390) | ((with_reducible refine gate_dst (N := 30) rfl ?_); refine Kd.R_lit (Kd.int .i64) _ 2 ?hg (N := 30) ?hd (xs := ([0, 1] : List Int)) (inner := [.int .i64 0, .int .i64 1]) (ok := fun _ => True) (okp := fun _ => True) ?hr ?hp (fun _ hk => hk) trivial (Below.refl _ _) (Nat.le_refl _) (by simp) ?_; (case hd => rfl); (case hg => rfl); (case hr => first | (go_simp; done) | (go_simp; rfl)); (case hp => exact (Reps.one (show Kd.M (Kd.int .i64) _ _ _ 0 [.int .i64 0] from rfl) (Reps.one (show Kd.M (Kd.int .i64) _ _ _ 1 [.int .i64 1] from rfl) (Reps.none _ _)))); intro v1401 w20 ho21 hb hg_ hnew_; clear hg_ hnew_; (first | rw [← Ny1400.out] at ho21 | (simp only [Int.reduceToNat] at ho21; rw [← Ny1400.out] at ho21)); have n0_ := Aside0.mk (Kd.R_elder' (ZQ (ZF3 HO1388 BK1399 (.int .i64 t1391) (.slice Ao17 t1392.length co17) (.slice Ao18 t1395.length co18))) (Kd.R_base ho21) hb); have n1_ := Aside0.mk (Kd.R_elder' (ZQ (ZF3 HO1394 BK1399 (.int .i64 t1391) (.slice Ao17 t1392.length co17) (.slice Ao18 t1395.length co18))) (Kd.R_base ho21) hb); have n2_ := Aside0.mk (Kd.R_elder' (ZQ (ZF3 HO1397 BK1399 (.int .i64 t1391) (.slice Ao17 t1392.length co17) (.slice Ao18 t1395.length co18))) (Kd.R_base ho21) hb); have n3_ := Aside0.mk (Kd.R_lower (Kd.R_new' (Kd.R_new' (Kd.R_new' ho21 (Kd.R_lt (ZQ (ZF3 HO1388 BK1399 (.int .i64 t1391) (.slice Ao17 t1392.length co17) (.slice Ao18 t1395.length co18))))) (Kd.R_lt (ZQ (ZF3 HO1394 BK1399 (.int .i64 t1391) (.slice Ao17 t1392.length co17) (.slice Ao18 t1395.length co18))))) (Kd.R_lt (ZQ (ZF3 HO1397 BK1399 (.int .i64 t1391) (.slice Ao17 t1392.length co17) (.slice Ao18 t1395.length co18))))) (below_size ZB)); have n4_ := Aside0.mk (blk_below (g := gb1384) (o := .cells #[.int .i64 0, .slice none 0 0, .int .i64 0, .slice none 0 0, .slice none 0 0, .slice none 0 0] 61 (0, 0)) (by refine ZS ?_; refine blk_far ?_ NB1384_1399.out _; refine ZS ?_; refine blk_far ?_ NB1384_1399.out _; refine ZS ?_; refine blk_far ?_ NB1384_1399.out _; refine ZS ?_; exact BK1384.out) hb); have n5_ := Aside0.mk (blk_below (g := gb1390) (o := .cells #[.int .i64 t1385, .slice Ao11 t1386.length co11] 59 (0, 0)) (by refine ZS ?_; refine blk_far ?_ NB1390_1399.out _; refine ZS ?_; refine blk_far ?_ NB1390_1399.out _; refine ZS ?_; refine blk_far ?_ NB1390_1399.out _; refine ZS ?_; exact BK1390.out) hb); have n6_ := Aside0.mk (blk_below (g := gb1399) (o := .cells #[.int .i64 t1391, .slice Ao17 t1392.length co17, .slice Ao18 t1395.length co18] 29 (0, 0)) (by refine ZS ?_; refine blk_put (cs := #[.int .i64 t1391, .slice Ao17 t1392.length co17, .slice none 0 0]) ?_ 2 _ rfl; refine ZS ?_; refine blk_put (cs := #[.int .i64 t1391, .slice none 0 0, .slice none 0 0]) ?_ 1 _ rfl; refine ZS ?_; refine blk_put (cs := #[.int .i64 0, .slice none 0 0, .slice none 0 0]) ?_ 0 _ rfl; refine ZS ?_; exact BK1399.out) hb); have n7_ := Aside0.mk (below_step ZB hb); clear HO1388; clear HO1394; clear HO1397; clear BK1384; clear BK1390; clear BK1399; clear HB; have HO1388 := n0_; have HO1394 := n1_; have HO1397 := n2_; have HO1402 := n3_; have BK1384 := n4_; have BK1390 := n5_; have BK1399 := n6_; have HB := n7_; clear n0_ n1_ n2_ n3_ n4_ n5_ n6_ n7_; clear hb ho21; obtain ⟨Ao22, co22, eo22⟩ := Kd.R_slice HO1402.out; subst eo22; obtain ⟨hcz23_0, hcz23_1, hcz23_2, hcz23_3, hcz23_4, hcz23_5, hfz23_0, hfz23_1, hfz23_2, hfz23_3, hfz23_4, hfz23_5⟩ := ZD6 BK1384))
   refine bodyPost_ret (results_ct rfl _ _ gb1384 61 #[.int .i64 t1385, .slice Ao11 t1386.length co11, .int .i64 t1391, .slice Ao17 t1392.length co17, .slice Ao18 t1395.length co18, .slice Ao22 y1400.length co22] (0, 0) _ rfl (by refine ZS ?_; refine blk_put (cs := #[.int .i64 t1385, .slice Ao11 t1386.length co11, .int .i64 t1391, .slice Ao17 t1392.length co17, .slice Ao18 t1395.length co18, .slice none 0 0]) ?_ 5 _ rfl; refine ZS ?_; refine blk_put (cs := #[.int .i64 t1385, .slice Ao11 t1386.length co11, .int .i64 t1391, .slice Ao17 t1392.length co17, .slice none 0 0, .slice none 0 0]) ?_ 4 _ rfl; refine ZS ?_; refine blk_put (cs := #[.int .i64 t1385, .slice Ao11 t1386.length co11, .int .i64 t1391, .slice none 0 0, .slice none 0 0, .slice none 0 0]) ?_ 3 _ rfl; refine ZS ?_; refine blk_put (cs := #[.int .i64 t1385, .slice Ao11 t1386.length co11, .int .i64 0, .slice none 0 0, .slice none 0 0, .slice none 0 0]) ?_ 2 _ rfl; refine ZS ?_; refine blk_put (cs := #[.int .i64 t1385, .slice none 0 0, .int .i64 0, .slice none 0 0, .slice none 0 0, .slice none 0 0]) ?_ 1 _ rfl; refine ZS ?_; refine blk_put (cs := #[.int .i64 0, .slice none 0 0, .int .i64 0, .slice none 0 0, .slice none 0 0, .slice none 0 0]) ?_ 0 _ rfl; refine ZS ?_; exact BK1384.out) Try.underlying61 rfl (by kernel_rfl)) rfl ?_
   exact ⟨_, _, _, _, by first | rfl | (simp [errW_none, errW_some] <;> rfl) | (simp [*, errW_none, errW_some] <;> rfl), by refine ZQ ?_; exact Kd.R_mono (Kd.R_far (p := ⟨gb1384, 5, none⟩) (Kd.R_far (p := ⟨gb1384, 4, none⟩) (Kd.R_far (p := ⟨gb1384, 3, none⟩) (Kd.R_far (p := ⟨gb1384, 2, none⟩) (Kd.R_far (p := ⟨gb1384, 1, none⟩) (Kd.R_far (p := ⟨gb1384, 0, none⟩) (Kd.R_types HO1388.out BK1384.out (by decide)) (fun _ hk => hk.2) (.int .i64 t1385)) (fun _ hk => hk.2) (.slice Ao11 t1386.length co11)) (fun _ hk => hk.2) (.int .i64 t1391)) (fun _ hk => hk.2) (.slice Ao17 t1392.length co17)) (fun _ hk => hk.2) (.slice Ao18 t1395.length co18)) (fun _ hk => hk.2) (.slice Ao22 y1400.length co22)) (fun _ hk => (And.intro (hk.1.1.1.2) ((And.intro (hk.1.1.2) (hk.1.2))))), by refine ZQ ?_; exact Kd.R_mono (Kd.R_far (p := ⟨gb1384, 5, none⟩) (Kd.R_far (p := ⟨gb1384, 4, none⟩) (Kd.R_far (p := ⟨gb1384, 3, none⟩) (Kd.R_far (p := ⟨gb1384, 2, none⟩) (Kd.R_far (p := ⟨gb1384, 1, none⟩) (Kd.R_far (p := ⟨gb1384, 0, none⟩) (Kd.R_types HO1394.out BK1384.out (by decide)) (fun _ hk => hk.2) (.int .i64 t1385)) (fun _ hk => hk.2) (.slice Ao11 t1386.length co11)) (fun _ hk => hk.2) (.int .i64 t1391)) (fun _ hk => hk.2) (.slice Ao17 t1392.length co17)) (fun _ hk => hk.2) (.slice Ao18 t1395.length co18)) (fun _ hk => hk.2) (.slice Ao22 y1400.length co22)) (fun _ hk => (And.intro (hk.1.1.2) ((And.intro (hk.1.1.1) (hk.1.2))))), by refine ZQ ?_; exact Kd.R_mono (Kd.R_far (p := ⟨gb1384, 5, none⟩) (Kd.R_far (p := ⟨gb1384, 4, none⟩) (Kd.R_far (p := ⟨gb1384, 3, none⟩) (Kd.R_far (p := ⟨gb1384, 2, none⟩) (Kd.R_far (p := ⟨gb1384, 1, none⟩) (Kd.R_far (p := ⟨gb1384, 0, none⟩) (Kd.R_types HO1397.out BK1384.out (by decide)) (fun _ hk => hk.2) (.int .i64 t1385)) (fun _ hk => hk.2) (.slice Ao11 t1386.length co11)) (fun _ hk => hk.2) (.int .i64 t1391)) (fun _ hk => hk.2) (.slice Ao17 t1392.length co17)) (fun _ hk => hk.2) (.slice Ao18 t1395.length co18)) (fun _ hk => hk.2) (.slice Ao22 y1400.length co22)) (fun _ hk => (And.intro (hk.1.1.2) ((And.intro (hk.1.1.1) (hk.1.2))))), by refine ZQ ?_; exact Kd.R_mono (Kd.R_far (p := ⟨gb1384, 5, none⟩) (Kd.R_far (p := ⟨gb1384, 4, none⟩) (Kd.R_far (p := ⟨gb1384, 3, none⟩) (Kd.R_far (p := ⟨gb1384, 2, none⟩) (Kd.R_far (p := ⟨gb1384, 1, none⟩) (Kd.R_far (p := ⟨gb1384, 0, none⟩) (Kd.R_types HO1402.out BK1384.out (by decide)) (fun _ hk => hk.2) (.int .i64 t1385)) (fun _ hk => hk.2) (.slice Ao11 t1386.length co11)) (fun _ hk => hk.2) (.int .i64 t1391)) (fun _ hk => hk.2) (.slice Ao17 t1392.length co17)) (fun _ hk => hk.2) (.slice Ao18 t1395.length co18)) (fun _ hk => hk.2) (.slice Ao22 y1400.length co22)) (fun _ hk => (And.intro (hk.1.1.1.2) ((And.intro (hk.1.1.2) (hk.1.2))))), ZB⟩
  ·rw [if_neg c5] at H
   have c5b0 : (t1398 == 0) = false := beq_eq_false_iff_ne.mpr c5
   have c5b1 : (t1398 != 0) = true := bne_iff_ne.mpr c5
   obtain ⟨ji24, hji24⟩ : ∃ j_ : Int, (mx t1389 t1398) = j_ := ⟨_, rfl⟩
   replace H : (some (0, ([] : List Int), 0, ([] : List Int), ([] : List Int), ([] : List Int), ji24)) = some (r1, r2, r3, r4, r5, r6, r7) := by first | (rw [hji24] at H; exact H) | (simp only [hji24] at H ⊢; exact H)
   (try rw [hji24] at A2)
   (try rw [hji24] at A3)
   have hji24_ : (if t1389 < t1398 then t1398 else t1389) = ji24 := hji24
   simp only [Option.some.injEq, Prod.mk.injEq] at H
   obtain ⟨rfl, rfl, rfl, rfl, rfl, rfl, rfl⟩ := H
   go_enter Try.func115, Try.ntmps115
   go_wp2_with (first | ((with_reducible refine gate_dst (N := 2) rfl ?_); refine box_event ?hg (N := 2) ?hd (cs := #[.int .i64 0, .slice none 0 0, .int .i64 0, .slice none 0 0, .slice none 0 0, .slice none 0 0]) (t := 61) ?hr ?_; (case hd => rfl); (case hg => rfl); (case hr => first | (go_simp; done) | (go_simp; rfl)); intro gb1384 hg w25 hbox hb; have n0_ := Aside0.mk (below_step ZB hb); have n1_ := Aside0.mk (hbox); have n2_ := Aside0.mk ((ZG hg : w.heap.size ≤ gb1384)); have n3_ := Aside0.mk ((ZG hg : w.heap.size ≤ gb1384)); clear HB; have HB := n0_; have BK1384 := n1_; have GW1384 := n2_; have GE1384 := n3_; clear n0_ n1_ n2_ n3_; clear hb hbox hg) | ((with_reducible refine gate_callee (f := 123) rfl ?_); refine goesL_ (some 10) rfl rfl Try.func123 (by kernel_rfl) rfl #[.string (⟨#[99, 97, 116, 97, 108, 97, 110]⟩ : ByteArray), .int .i64 a0, .int .i64 8] rfl ZA ?_; (with_reducible refine (spec_NamedMoments.calls k (⟨#[99, 97, 116, 97, 108, 97, 110]⟩ : ByteArray) a0 8 t1385 t1386 t1389 _ A2.out).mono ?_); rintro e w26 ⟨v1387, rfl, ho0, hb⟩; refine ⟨_, rfl, ?_⟩; have n0_ := Aside0.mk (Kd.R_lower ho0 (below_size ZB)); have n1_ := ZL BK1384 hb; have n2_ := Aside0.mk (below_step ZB hb); clear BK1384; clear HB; have HO1388 := n0_; have BK1384 := n1_; have HB := n2_; clear n0_ n1_ n2_; (try clear hb); (try clear hb2); (try clear hk); (try clear hi); (try clear ho0)) | ((with_reducible refine gate_dst (N := 4) rfl ?_); refine box_event ?hg (N := 4) ?hd (cs := #[.int .i64 0, .slice none 0 0]) (t := 59) ?hr ?_; (case hd => rfl); (case hg => rfl); (case hr => first | (go_simp; done) | (go_simp; rfl)); intro gb1390 hg w27 hbox hb; have n0_ := Aside0.mk (Kd.R_below (ZR HO1388) hb); have n1_ := ZL BK1384 hb; have n2_ := Aside0.mk (below_step ZB hb); have n3_ := Aside0.mk (hbox); have n4_ := Aside0.mk ((ZG hg : w.heap.size ≤ gb1390)); have n5_ := Aside0.mk ((ZG hg : w.heap.size ≤ gb1390)); have n6_ := Aside0.mk ((ZN hg BK1384 : gb1384 ≠ gb1390)); have n7_ := Aside0.mk ((ZM hg BK1384 : gb1390 ≠ gb1384)); clear HO1388; clear BK1384; clear HB; have HO1388 := n0_; have BK1384 := n1_; have HB := n2_; have BK1390 := n3_; have GW1390 := n4_; have GE1390 := n5_; have NB1384_1390 := n6_; have NB1390_1384 := n7_; clear n0_ n1_ n2_ n3_ n4_ n5_ n6_ n7_; clear hb hbox hg; have hnb28 := NB1390_1384.out; have hnc28 := NB1384_1390.out; obtain ⟨hcz29_0, hcz29_1, hfz29_0, hfz29_1⟩ := ZD2 BK1390; obtain ⟨Ao30, co30, eo30⟩ := Kd.R_slice HO1388.out; subst eo30) | ((with_reducible refine gate_callee (f := 124) rfl ?_); refine goesL_ (some 15) rfl rfl Try.func124 (by kernel_rfl) rfl #[.string (⟨#[99, 97, 116, 97, 108, 97, 110]⟩ : ByteArray), .int .i64 a0, .int .i64 4] rfl ZA ?_; (with_reducible refine (spec_NamedJacobi.calls k (⟨#[99, 97, 116, 97, 108, 97, 110]⟩ : ByteArray) a0 4 t1391 t1392 t1395 t1398 _ A3.out).mono ?_); rintro e w31 ⟨v1393, v1396, rfl, ho0, ho1, hb⟩; refine ⟨_, rfl, ?_⟩; have n0_ := Aside0.mk (Kd.R_mono (Kd.R_told (Kd.R_told (Kd.R_old (ZQ (ZF2 HO1388 BK1390 (.int .i64 t1385) (.slice Ao30 t1386.length co30))) hb) (Kd.R_base ho0)) (Kd.R_base ho1)) (fun _ h_ => h_.1)); have n1_ := Aside0.mk (Kd.R_lower (Kd.R_new' ho0 (Kd.R_lt (ZQ (ZF2 HO1388 BK1390 (.int .i64 t1385) (.slice Ao30 t1386.length co30))))) (below_size ZB)); have n2_ := Aside0.mk (Kd.R_lower (Kd.R_new' ho1 (Kd.R_lt (ZQ (ZF2 HO1388 BK1390 (.int .i64 t1385) (.slice Ao30 t1386.length co30))))) (below_size ZB)); have n3_ := Aside0.mk (blk_below (g := gb1384) (o := .cells #[.int .i64 0, .slice none 0 0, .int .i64 0, .slice none 0 0, .slice none 0 0, .slice none 0 0] 61 (0, 0)) (by refine ZS ?_; refine blk_far ?_ NB1384_1390.out _; refine ZS ?_; refine blk_far ?_ NB1384_1390.out _; refine ZS ?_; exact BK1384.out) hb); have n4_ := Aside0.mk (blk_below (g := gb1390) (o := .cells #[.int .i64 t1385, .slice Ao30 t1386.length co30] 59 (0, 0)) (by refine ZS ?_; refine blk_put (cs := #[.int .i64 t1385, .slice none 0 0]) ?_ 1 _ rfl; refine ZS ?_; refine blk_put (cs := #[.int .i64 0, .slice none 0 0]) ?_ 0 _ rfl; refine ZS ?_; exact BK1390.out) hb); have n5_ := Aside0.mk (below_step ZB hb); clear HO1388; clear BK1384; clear BK1390; clear HB; have HO1388 := n0_; have HO1394 := n1_; have HO1397 := n2_; have BK1384 := n3_; have BK1390 := n4_; have HB := n5_; clear n0_ n1_ n2_ n3_ n4_ n5_; (try clear hb); (try clear hb2); (try clear hk); (try clear hi); (try clear ho0); (try clear ho1)) | ((with_reducible refine gate_dst (N := 6) rfl ?_); refine box_event ?hg (N := 6) ?hd (cs := #[.int .i64 0, .slice none 0 0, .slice none 0 0]) (t := 29) ?hr ?_; (case hd => rfl); (case hg => rfl); (case hr => first | (go_simp; done) | (go_simp; rfl)); intro gb1399 hg w32 hbox hb; have n0_ := Aside0.mk (Kd.R_below (ZR HO1388) hb); have n1_ := Aside0.mk (Kd.R_below (ZR HO1394) hb); have n2_ := Aside0.mk (Kd.R_below (ZR HO1397) hb); have n3_ := ZL BK1384 hb; have n4_ := ZL BK1390 hb; have n5_ := Aside0.mk (below_step ZB hb); have n6_ := Aside0.mk (hbox); have n7_ := Aside0.mk ((ZG hg : w.heap.size ≤ gb1399)); have n8_ := Aside0.mk ((ZG hg : w.heap.size ≤ gb1399)); have n9_ := Aside0.mk ((ZN hg BK1384 : gb1384 ≠ gb1399)); have n10_ := Aside0.mk ((ZM hg BK1384 : gb1399 ≠ gb1384)); have n11_ := Aside0.mk ((ZN hg BK1390 : gb1390 ≠ gb1399)); have n12_ := Aside0.mk ((ZM hg BK1390 : gb1399 ≠ gb1390)); clear HO1388; clear HO1394; clear HO1397; clear BK1384; clear BK1390; clear HB; have HO1388 := n0_; have HO1394 := n1_; have HO1397 := n2_; have BK1384 := n3_; have BK1390 := n4_; have HB := n5_; have BK1399 := n6_; have GW1399 := n7_; have GE1399 := n8_; have NB1384_1399 := n9_; have NB1399_1384 := n10_; have NB1390_1399 := n11_; have NB1399_1390 := n12_; clear n0_ n1_ n2_ n3_ n4_ n5_ n6_ n7_ n8_ n9_ n10_ n11_ n12_; clear hb hbox hg; have hnb33 := NB1399_1384.out; have hnc33 := NB1384_1399.out; have hnb34 := NB1399_1390.out; have hnc34 := NB1390_1399.out; obtain ⟨hcz35_0, hcz35_1, hcz35_2, hfz35_0, hfz35_1, hfz35_2⟩ := ZD3 BK1399; obtain ⟨Ao36, co36, eo36⟩ := Kd.R_slice HO1394.out; subst eo36; obtain ⟨Ao37, co37, eo37⟩ := Kd.R_slice HO1397.out; subst eo37; obtain ⟨hcz38_0, hcz38_1, hcz38_2, hcz38_3, hcz38_4, hcz38_5, hfz38_0, hfz38_1, hfz38_2, hfz38_3, hfz38_4, hfz38_5⟩ := ZD6 BK1384))
   refine bodyPost_ret (results_ct rfl _ _ gb1384 61 #[.int .i64 0, .slice none 0 0, .int .i64 0, .slice none 0 0, .slice none 0 0, .slice none 0 0] (0, 0) _ rfl (by refine ZS ?_; refine blk_put (cs := #[.int .i64 0, .slice none 0 0, .int .i64 0, .slice none 0 0, .slice none 0 0, .slice none 0 0]) ?_ 5 _ rfl; refine ZS ?_; refine blk_put (cs := #[.int .i64 0, .slice none 0 0, .int .i64 0, .slice none 0 0, .slice none 0 0, .slice none 0 0]) ?_ 4 _ rfl; refine ZS ?_; refine blk_put (cs := #[.int .i64 0, .slice none 0 0, .int .i64 0, .slice none 0 0, .slice none 0 0, .slice none 0 0]) ?_ 3 _ rfl; refine ZS ?_; refine blk_put (cs := #[.int .i64 0, .slice none 0 0, .int .i64 0, .slice none 0 0, .slice none 0 0, .slice none 0 0]) ?_ 2 _ rfl; refine ZS ?_; refine blk_put (cs := #[.int .i64 0, .slice none 0 0, .int .i64 0, .slice none 0 0, .slice none 0 0, .slice none 0 0]) ?_ 1 _ rfl; refine ZS ?_; refine blk_put (cs := #[.int .i64 0, .slice none 0 0, .int .i64 0, .slice none 0 0, .slice none 0 0, .slice none 0 0]) ?_ 0 _ rfl; refine ZS ?_; refine blk_far ?_ NB1384_1399.out _; refine ZS ?_; refine blk_far ?_ NB1384_1399.out _; refine ZS ?_; refine blk_far ?_ NB1384_1399.out _; refine ZS ?_; exact BK1384.out) Try.underlying61 rfl (by kernel_rfl)) rfl ?_
   exact ⟨_, _, _, _, by first | rfl | (simp [errW_none, errW_some] <;> rfl) | (simp only [← hji24]; first | rfl | (simp [errW_none, errW_some] <;> rfl)) | (simp [*, errW_none, errW_some] <;> rfl), by first | exact Kd.R_nil _ _ _ _ _ | exact Kd.N_nil _ _ _ _ _ | exact Kd.V_nil _ _ _ _ _ | exact Kd.Q_nil _ _ _ _ _ | exact Kd.S_nil _ _ _ _ _, by first | exact Kd.R_nil _ _ _ _ _ | exact Kd.N_nil _ _ _ _ _ | exact Kd.V_nil _ _ _ _ _ | exact Kd.Q_nil _ _ _ _ _ | exact Kd.S_nil _ _ _ _ _, by first | exact Kd.R_nil _ _ _ _ _ | exact Kd.N_nil _ _ _ _ _ | exact Kd.V_nil _ _ _ _ _ | exact Kd.Q_nil _ _ _ _ _ | exact Kd.S_nil _ _ _ _ _, by first | exact Kd.R_nil _ _ _ _ _ | exact Kd.N_nil _ _ _ _ _ | exact Kd.V_nil _ _ _ _ _ | exact Kd.Q_nil _ _ _ _ _ | exact Kd.S_nil _ _ _ _ _, ZB⟩
 ·rw [if_neg c4] at H
  have c4b0 : (t1389 == 0) = false := beq_eq_false_iff_ne.mpr c4
  have c4b1 : (t1389 != 0) = true := bne_iff_ne.mpr c4
  obtain ⟨ji39, hji39⟩ : ∃ j_ : Int, (mx t1389 t1398) = j_ := ⟨_, rfl⟩
  replace H : (some (0, ([] : List Int), 0, ([] : List Int), ([] : List Int), ([] : List Int), ji39)) = some (r1, r2, r3, r4, r5, r6, r7) := by first | (rw [hji39] at H; exact H) | (simp only [hji39] at H ⊢; exact H)
  (try rw [hji39] at A2)
  (try rw [hji39] at A3)
  have hji39_ : (if t1389 < t1398 then t1398 else t1389) = ji39 := hji39
  simp only [Option.some.injEq, Prod.mk.injEq] at H
  obtain ⟨rfl, rfl, rfl, rfl, rfl, rfl, rfl⟩ := H
  go_enter Try.func115, Try.ntmps115
  go_wp2_with (first | ((with_reducible refine gate_dst (N := 2) rfl ?_); refine box_event ?hg (N := 2) ?hd (cs := #[.int .i64 0, .slice none 0 0, .int .i64 0, .slice none 0 0, .slice none 0 0, .slice none 0 0]) (t := 61) ?hr ?_; (case hd => rfl); (case hg => rfl); (case hr => first | (go_simp; done) | (go_simp; rfl)); intro gb1384 hg w40 hbox hb; have n0_ := Aside0.mk (below_step ZB hb); have n1_ := Aside0.mk (hbox); have n2_ := Aside0.mk ((ZG hg : w.heap.size ≤ gb1384)); have n3_ := Aside0.mk ((ZG hg : w.heap.size ≤ gb1384)); clear HB; have HB := n0_; have BK1384 := n1_; have GW1384 := n2_; have GE1384 := n3_; clear n0_ n1_ n2_ n3_; clear hb hbox hg) | ((with_reducible refine gate_callee (f := 123) rfl ?_); refine goesL_ (some 10) rfl rfl Try.func123 (by kernel_rfl) rfl #[.string (⟨#[99, 97, 116, 97, 108, 97, 110]⟩ : ByteArray), .int .i64 a0, .int .i64 8] rfl ZA ?_; (with_reducible refine (spec_NamedMoments.calls k (⟨#[99, 97, 116, 97, 108, 97, 110]⟩ : ByteArray) a0 8 t1385 t1386 t1389 _ A2.out).mono ?_); rintro e w41 ⟨v1387, rfl, ho0, hb⟩; refine ⟨_, rfl, ?_⟩; have n0_ := Aside0.mk (Kd.R_lower ho0 (below_size ZB)); have n1_ := ZL BK1384 hb; have n2_ := Aside0.mk (below_step ZB hb); clear BK1384; clear HB; have HO1388 := n0_; have BK1384 := n1_; have HB := n2_; clear n0_ n1_ n2_; (try clear hb); (try clear hb2); (try clear hk); (try clear hi); (try clear ho0)) | ((with_reducible refine gate_dst (N := 4) rfl ?_); refine box_event ?hg (N := 4) ?hd (cs := #[.int .i64 0, .slice none 0 0]) (t := 59) ?hr ?_; (case hd => rfl); (case hg => rfl); (case hr => first | (go_simp; done) | (go_simp; rfl)); intro gb1390 hg w42 hbox hb; have n0_ := Aside0.mk (Kd.R_below (ZR HO1388) hb); have n1_ := ZL BK1384 hb; have n2_ := Aside0.mk (below_step ZB hb); have n3_ := Aside0.mk (hbox); have n4_ := Aside0.mk ((ZG hg : w.heap.size ≤ gb1390)); have n5_ := Aside0.mk ((ZG hg : w.heap.size ≤ gb1390)); have n6_ := Aside0.mk ((ZN hg BK1384 : gb1384 ≠ gb1390)); have n7_ := Aside0.mk ((ZM hg BK1384 : gb1390 ≠ gb1384)); clear HO1388; clear BK1384; clear HB; have HO1388 := n0_; have BK1384 := n1_; have HB := n2_; have BK1390 := n3_; have GW1390 := n4_; have GE1390 := n5_; have NB1384_1390 := n6_; have NB1390_1384 := n7_; clear n0_ n1_ n2_ n3_ n4_ n5_ n6_ n7_; clear hb hbox hg; have hnb43 := NB1390_1384.out; have hnc43 := NB1384_1390.out; obtain ⟨hcz44_0, hcz44_1, hfz44_0, hfz44_1⟩ := ZD2 BK1390; obtain ⟨Ao45, co45, eo45⟩ := Kd.R_slice HO1388.out; subst eo45) | ((with_reducible refine gate_callee (f := 124) rfl ?_); refine goesL_ (some 15) rfl rfl Try.func124 (by kernel_rfl) rfl #[.string (⟨#[99, 97, 116, 97, 108, 97, 110]⟩ : ByteArray), .int .i64 a0, .int .i64 4] rfl ZA ?_; (with_reducible refine (spec_NamedJacobi.calls k (⟨#[99, 97, 116, 97, 108, 97, 110]⟩ : ByteArray) a0 4 t1391 t1392 t1395 t1398 _ A3.out).mono ?_); rintro e w46 ⟨v1393, v1396, rfl, ho0, ho1, hb⟩; refine ⟨_, rfl, ?_⟩; have n0_ := Aside0.mk (Kd.R_mono (Kd.R_told (Kd.R_told (Kd.R_old (ZQ (ZF2 HO1388 BK1390 (.int .i64 t1385) (.slice Ao45 t1386.length co45))) hb) (Kd.R_base ho0)) (Kd.R_base ho1)) (fun _ h_ => h_.1)); have n1_ := Aside0.mk (Kd.R_lower (Kd.R_new' ho0 (Kd.R_lt (ZQ (ZF2 HO1388 BK1390 (.int .i64 t1385) (.slice Ao45 t1386.length co45))))) (below_size ZB)); have n2_ := Aside0.mk (Kd.R_lower (Kd.R_new' ho1 (Kd.R_lt (ZQ (ZF2 HO1388 BK1390 (.int .i64 t1385) (.slice Ao45 t1386.length co45))))) (below_size ZB)); have n3_ := Aside0.mk (blk_below (g := gb1384) (o := .cells #[.int .i64 0, .slice none 0 0, .int .i64 0, .slice none 0 0, .slice none 0 0, .slice none 0 0] 61 (0, 0)) (by refine ZS ?_; refine blk_far ?_ NB1384_1390.out _; refine ZS ?_; refine blk_far ?_ NB1384_1390.out _; refine ZS ?_; exact BK1384.out) hb); have n4_ := Aside0.mk (blk_below (g := gb1390) (o := .cells #[.int .i64 t1385, .slice Ao45 t1386.length co45] 59 (0, 0)) (by refine ZS ?_; refine blk_put (cs := #[.int .i64 t1385, .slice none 0 0]) ?_ 1 _ rfl; refine ZS ?_; refine blk_put (cs := #[.int .i64 0, .slice none 0 0]) ?_ 0 _ rfl; refine ZS ?_; exact BK1390.out) hb); have n5_ := Aside0.mk (below_step ZB hb); clear HO1388; clear BK1384; clear BK1390; clear HB; have HO1388 := n0_; have HO1394 := n1_; have HO1397 := n2_; have BK1384 := n3_; have BK1390 := n4_; have HB := n5_; clear n0_ n1_ n2_ n3_ n4_ n5_; (try clear hb); (try clear hb2); (try clear hk); (try clear hi); (try clear ho0); (try clear ho1)) | ((with_reducible refine gate_dst (N := 6) rfl ?_); refine box_event ?hg (N := 6) ?hd (cs := #[.int .i64 0, .slice none 0 0, .slice none 0 0]) (t := 29) ?hr ?_; (case hd => rfl); (case hg => rfl); (case hr => first | (go_simp; done) | (go_simp; rfl)); intro gb1399 hg w47 hbox hb; have n0_ := Aside0.mk (Kd.R_below (ZR HO1388) hb); have n1_ := Aside0.mk (Kd.R_below (ZR HO1394) hb); have n2_ := Aside0.mk (Kd.R_below (ZR HO1397) hb); have n3_ := ZL BK1384 hb; have n4_ := ZL BK1390 hb; have n5_ := Aside0.mk (below_step ZB hb); have n6_ := Aside0.mk (hbox); have n7_ := Aside0.mk ((ZG hg : w.heap.size ≤ gb1399)); have n8_ := Aside0.mk ((ZG hg : w.heap.size ≤ gb1399)); have n9_ := Aside0.mk ((ZN hg BK1384 : gb1384 ≠ gb1399)); have n10_ := Aside0.mk ((ZM hg BK1384 : gb1399 ≠ gb1384)); have n11_ := Aside0.mk ((ZN hg BK1390 : gb1390 ≠ gb1399)); have n12_ := Aside0.mk ((ZM hg BK1390 : gb1399 ≠ gb1390)); clear HO1388; clear HO1394; clear HO1397; clear BK1384; clear BK1390; clear HB; have HO1388 := n0_; have HO1394 := n1_; have HO1397 := n2_; have BK1384 := n3_; have BK1390 := n4_; have HB := n5_; have BK1399 := n6_; have GW1399 := n7_; have GE1399 := n8_; have NB1384_1399 := n9_; have NB1399_1384 := n10_; have NB1390_1399 := n11_; have NB1399_1390 := n12_; clear n0_ n1_ n2_ n3_ n4_ n5_ n6_ n7_ n8_ n9_ n10_ n11_ n12_; clear hb hbox hg; have hnb48 := NB1399_1384.out; have hnc48 := NB1384_1399.out; have hnb49 := NB1399_1390.out; have hnc49 := NB1390_1399.out; obtain ⟨hcz50_0, hcz50_1, hcz50_2, hfz50_0, hfz50_1, hfz50_2⟩ := ZD3 BK1399; obtain ⟨Ao51, co51, eo51⟩ := Kd.R_slice HO1394.out; subst eo51; obtain ⟨Ao52, co52, eo52⟩ := Kd.R_slice HO1397.out; subst eo52; obtain ⟨hcz53_0, hcz53_1, hcz53_2, hcz53_3, hcz53_4, hcz53_5, hfz53_0, hfz53_1, hfz53_2, hfz53_3, hfz53_4, hfz53_5⟩ := ZD6 BK1384))
  refine bodyPost_ret (results_ct rfl _ _ gb1384 61 #[.int .i64 0, .slice none 0 0, .int .i64 0, .slice none 0 0, .slice none 0 0, .slice none 0 0] (0, 0) _ rfl (by refine ZS ?_; refine blk_put (cs := #[.int .i64 0, .slice none 0 0, .int .i64 0, .slice none 0 0, .slice none 0 0, .slice none 0 0]) ?_ 5 _ rfl; refine ZS ?_; refine blk_put (cs := #[.int .i64 0, .slice none 0 0, .int .i64 0, .slice none 0 0, .slice none 0 0, .slice none 0 0]) ?_ 4 _ rfl; refine ZS ?_; refine blk_put (cs := #[.int .i64 0, .slice none 0 0, .int .i64 0, .slice none 0 0, .slice none 0 0, .slice none 0 0]) ?_ 3 _ rfl; refine ZS ?_; refine blk_put (cs := #[.int .i64 0, .slice none 0 0, .int .i64 0, .slice none 0 0, .slice none 0 0, .slice none 0 0]) ?_ 2 _ rfl; refine ZS ?_; refine blk_put (cs := #[.int .i64 0, .slice none 0 0, .int .i64 0, .slice none 0 0, .slice none 0 0, .slice none 0 0]) ?_ 1 _ rfl; refine ZS ?_; refine blk_put (cs := #[.int .i64 0, .slice none 0 0, .int .i64 0, .slice none 0 0, .slice none 0 0, .slice none 0 0]) ?_ 0 _ rfl; refine ZS ?_; refine blk_far ?_ NB1384_1399.out _; refine ZS ?_; refine blk_far ?_ NB1384_1399.out _; refine ZS ?_; refine blk_far ?_ NB1384_1399.out _; refine ZS ?_; exact BK1384.out) Try.underlying61 rfl (by kernel_rfl)) rfl ?_
  exact ⟨_, _, _, _, by first | rfl | (simp [errW_none, errW_some] <;> rfl) | (simp only [← hji39]; first | rfl | (simp [errW_none, errW_some] <;> rfl)) | (simp [*, errW_none, errW_some] <;> rfl), by first | exact Kd.R_nil _ _ _ _ _ | exact Kd.N_nil _ _ _ _ _ | exact Kd.V_nil _ _ _ _ _ | exact Kd.Q_nil _ _ _ _ _ | exact Kd.S_nil _ _ _ _ _, by first | exact Kd.R_nil _ _ _ _ _ | exact Kd.N_nil _ _ _ _ _ | exact Kd.V_nil _ _ _ _ _ | exact Kd.Q_nil _ _ _ _ _ | exact Kd.S_nil _ _ _ _ _, by first | exact Kd.R_nil _ _ _ _ _ | exact Kd.N_nil _ _ _ _ _ | exact Kd.V_nil _ _ _ _ _ | exact Kd.Q_nil _ _ _ _ _ | exact Kd.S_nil _ _ _ _ _, by first | exact Kd.R_nil _ _ _ _ _ | exact Kd.N_nil _ _ _ _ _ | exact Kd.V_nil _ _ _ _ _ | exact Kd.Q_nil _ _ _ _ _ | exact Kd.S_nil _ _ _ _ _, ZB⟩

end Go.Proofs.Ytaclapojgdekpaa.X
