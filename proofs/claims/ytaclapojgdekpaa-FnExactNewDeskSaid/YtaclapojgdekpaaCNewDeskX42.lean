/- Contracts of functions that the law reaches, printed by a program of this session; Lean checks them. -/
import Derived.Test.YtaclapojgdekpaaCNewDeskX0
import Derived.Test.YtaclapojgdekpaaCNewDeskX10
import Derived.Test.YtaclapojgdekpaaCNewDeskX41
import Derived.Test.YtaclapojgdekpaaCNewDeskX7
import Derived.Test.YtaclapojgdekpaaCNewDeskXZ
namespace Go.Proofs.Ytaclapojgdekpaa.X
open Go.RowKit Go.Proofs.YtaclapojgdekpaaW.PrintWords Go.Proofs.YtaclapojgdekpaaW.PrintLast Go.Proofs.YtaclapojgdekpaaW.PrintMore
attribute [local go_sem] max2_int min2_int max_two min_two max_three min_three max_four min_four   -- for this text's walks alone
set_option linter.unusedVariables false
set_option linter.unusedSimpArgs false

/-! ### impl_field_named: function 125 -/
mutual
def impl_field_named.l0 : Nat → Int → ByteArray → Int → List Int → Int → Option (List Int × Bool)
 | 0, _, _, _, _, _ => none
 | k + 1, x0, x1, x2, x8, x9 => if x9 < x2 then (if x1.toList = ([117, 110, 105, 102, 111, 114, 109] : List UInt8) then ((impl_field_mod.f x0 (wrap64 (x9 + 1))).bind fun t1445 => ((impl_field_inverse.f k x0 t1445).bind fun t1446 => (if x8.length < 17592186044416 then (impl_field_named.l0 k x0 x1 x2 (x8 ++ [t1446]) (wrap64 (x9 + 1))) else (none)))) else (if x1.toList = ([108, 97, 103, 117, 101, 114, 114, 101] : List UInt8) then (if 0 ≤ (wrap64 (x9 - 1)) then (if (wrap64 (x9 - 1)) < (x8.length : Int) then ((impl_field_mul.f x0 (rd x8 (wrap64 (x9 - 1))) x9).bind fun t1451 => (if x8.length < 17592186044416 then (impl_field_named.l0 k x0 x1 x2 (x8 ++ [t1451]) (wrap64 (x9 + 1))) else (none))) else (none)) else (none)) else (if x1.toList = ([104, 101, 114, 109, 105, 116, 101] : List UInt8) then (if (Int.tmod x9 2) = 0 then (if 0 ≤ (wrap64 (x9 - 2)) then (if (wrap64 (x9 - 2)) < (x8.length : Int) then ((impl_field_mul.f x0 (rd x8 (wrap64 (x9 - 2))) (wrap64 (x9 - 1))).bind fun t1456 => (if x8.length < 17592186044416 then (impl_field_named.l0 k x0 x1 x2 (x8 ++ [t1456]) (wrap64 (x9 + 1))) else (none))) else (none)) else (none)) else (if x8.length < 17592186044416 then (impl_field_named.l0 k x0 x1 x2 (x8 ++ [0]) (wrap64 (x9 + 1))) else (none))) else (if x1.toList = ([99, 97, 116, 97, 108, 97, 110] : List UInt8) then (impl_field_named.l1 k x0 x1 x2 x8 x9 0 x9 0) else (if x1.toList = ([112, 111, 105, 115, 115, 111, 110] : List UInt8) then (impl_field_named.l2 k x0 x1 x2 x8 x9 0 1 x9 0) else (if x8.length < 17592186044416 then (impl_field_named.l0 k x0 x1 x2 (x8 ++ [0]) (wrap64 (x9 + 1))) else (none))))))) else ((slices_Contains_string_string.f k (([(⟨#[117, 110, 105, 102, 111, 114, 109]⟩ : ByteArray), (⟨#[108, 97, 103, 117, 101, 114, 114, 101]⟩ : ByteArray), (⟨#[104, 101, 114, 109, 105, 116, 101]⟩ : ByteArray), (⟨#[99, 97, 116, 97, 108, 97, 110]⟩ : ByteArray), (⟨#[112, 111, 105, 115, 115, 111, 110]⟩ : ByteArray)] : List ByteArray)) x1).bind fun t1444 => (some (x8, t1444)))
def impl_field_named.l1 : Nat → Int → ByteArray → Int → List Int → Int → Int → Int → Int → Option (List Int × Bool)
 | 0, _, _, _, _, _, _, _, _ => none
 | k + 1, x0, x1, x2, x8, x9, x10, x57, x58 => if x58 < x57 then (if 0 ≤ x58 then (if x58 < (x8.length : Int) then (if 0 ≤ (wrap64 ((wrap64 (x9 - 1)) - x58)) then (if (wrap64 ((wrap64 (x9 - 1)) - x58)) < (x8.length : Int) then ((impl_field_mod.f x0 (wrap64 (x10 + (wrap64 ((rd x8 x58) * (rd x8 (wrap64 ((wrap64 (x9 - 1)) - x58)))))))).bind fun t1465 => (impl_field_named.l1 k x0 x1 x2 x8 x9 t1465 x57 (wrap64 (x58 + 1)))) else (none)) else (none)) else (none)) else (none)) else (if x8.length < 17592186044416 then (impl_field_named.l0 k x0 x1 x2 (x8 ++ [x10]) (wrap64 (x9 + 1))) else (none))
def impl_field_named.l2 : Nat → Int → ByteArray → Int → List Int → Int → Int → Int → Int → Int → Option (List Int × Bool)
 | 0, _, _, _, _, _, _, _, _, _ => none
 | k + 1, x0, x1, x2, x8, x9, x10, x12, x80, x81 => if x81 < x80 then ((impl_field_mod.f x0 x12).bind fun t1469 => (if 0 ≤ x81 then (if x81 < (x8.length : Int) then ((impl_field_mod.f x0 (wrap64 (x10 + (wrap64 (t1469 * (rd x8 x81)))))).bind fun t1471 => (if (wrap64 (x81 + 1)) = 0 then (none) else (impl_field_named.l2 k x0 x1 x2 x8 x9 t1471 (wrap64 (Int.tdiv (wrap64 (x12 * (wrap64 ((wrap64 (x9 - 1)) - x81)))) (wrap64 (x81 + 1)))) x80 (wrap64 (x81 + 1))))) else (none)) else (none))) else (if x8.length < 17592186044416 then (impl_field_named.l0 k x0 x1 x2 (x8 ++ [x10]) (wrap64 (x9 + 1))) else (none))
end
def impl_field_named.f (k : Nat) (a0 : Int) (a1 : ByteArray) (a2 : Int) : Option (List Int × Bool) := (impl_field_mod.f a0 1).bind fun t1437 => (impl_field_named.l0 k a0 a1 a2 (([t1437] : List Int)) 1)
theorem impl_field_named.mono_l : ∀ k, (∀ y0 y1 y2 y3 y4, LeO (impl_field_named.l0 k y0 y1 y2 y3 y4) (impl_field_named.l0 (k + 1) y0 y1 y2 y3 y4)) ∧ (∀ y0 y1 y2 y3 y4 y5 y6 y7, LeO (impl_field_named.l1 k y0 y1 y2 y3 y4 y5 y6 y7) (impl_field_named.l1 (k + 1) y0 y1 y2 y3 y4 y5 y6 y7)) ∧ (∀ y0 y1 y2 y3 y4 y5 y6 y7 y8, LeO (impl_field_named.l2 k y0 y1 y2 y3 y4 y5 y6 y7 y8) (impl_field_named.l2 (k + 1) y0 y1 y2 y3 y4 y5 y6 y7 y8))
 | 0 => ⟨fun _ _ _ _ _ r h => by simp [impl_field_named.l0] at h, fun _ _ _ _ _ _ _ _ r h => by simp [impl_field_named.l1] at h, fun _ _ _ _ _ _ _ _ _ r h => by simp [impl_field_named.l2] at h⟩
 | k + 1 => by
  obtain ⟨ih0, ih1, ih2⟩ := impl_field_named.mono_l k
  refine ⟨?_, ?_, ?_⟩
  ·intro y0 y1 y2 y3 y4
   unfold impl_field_named.l0
   repeat' first
   | (with_reducible exact ih0 _ _ _ _ _)
   | (with_reducible exact ih1 _ _ _ _ _ _ _ _)
   | (with_reducible exact ih2 _ _ _ _ _ _ _ _ _)
   | (with_reducible exact impl_field_inverse.mono _ _ _)
   | (with_reducible exact slices_Contains_string_string.mono _ _ _)
   | (with_reducible exact LeO.refl _)
   | (with_reducible exact LeO.none _)
   | (with_reducible refine LeO.ite ?_ ?_)
   | (with_reducible refine LeO.bind ?_ (fun _ => ?_))
   | exact ih0 _ _ _ _ _
   | exact ih1 _ _ _ _ _ _ _ _
   | exact ih2 _ _ _ _ _ _ _ _ _
   | exact impl_field_inverse.mono _ _ _
   | exact slices_Contains_string_string.mono _ _ _
   | exact LeO.none _
   | refine LeO.ite ?_ ?_
   | refine LeO.bind ?_ (fun _ => ?_)
  ·intro y0 y1 y2 y3 y4 y5 y6 y7
   unfold impl_field_named.l1
   repeat' first
   | (with_reducible exact ih0 _ _ _ _ _)
   | (with_reducible exact ih1 _ _ _ _ _ _ _ _)
   | (with_reducible exact ih2 _ _ _ _ _ _ _ _ _)
   | (with_reducible exact impl_field_inverse.mono _ _ _)
   | (with_reducible exact slices_Contains_string_string.mono _ _ _)
   | (with_reducible exact LeO.refl _)
   | (with_reducible exact LeO.none _)
   | (with_reducible refine LeO.ite ?_ ?_)
   | (with_reducible refine LeO.bind ?_ (fun _ => ?_))
   | exact ih0 _ _ _ _ _
   | exact ih1 _ _ _ _ _ _ _ _
   | exact ih2 _ _ _ _ _ _ _ _ _
   | exact impl_field_inverse.mono _ _ _
   | exact slices_Contains_string_string.mono _ _ _
   | exact LeO.none _
   | refine LeO.ite ?_ ?_
   | refine LeO.bind ?_ (fun _ => ?_)
  ·intro y0 y1 y2 y3 y4 y5 y6 y7 y8
   unfold impl_field_named.l2
   repeat' first
   | (with_reducible exact ih0 _ _ _ _ _)
   | (with_reducible exact ih1 _ _ _ _ _ _ _ _)
   | (with_reducible exact ih2 _ _ _ _ _ _ _ _ _)
   | (with_reducible exact impl_field_inverse.mono _ _ _)
   | (with_reducible exact slices_Contains_string_string.mono _ _ _)
   | (with_reducible exact LeO.refl _)
   | (with_reducible exact LeO.none _)
   | (with_reducible refine LeO.ite ?_ ?_)
   | (with_reducible refine LeO.bind ?_ (fun _ => ?_))
   | exact ih0 _ _ _ _ _
   | exact ih1 _ _ _ _ _ _ _ _
   | exact ih2 _ _ _ _ _ _ _ _ _
   | exact impl_field_inverse.mono _ _ _
   | exact slices_Contains_string_string.mono _ _ _
   | exact LeO.none _
   | refine LeO.ite ?_ ?_
   | refine LeO.bind ?_ (fun _ => ?_)
theorem impl_field_named.mono : ∀ a0 a1 a2 k, LeO (impl_field_named.f k a0 a1 a2) (impl_field_named.f (k + 1) a0 a1 a2) := by
 intro a0 a1 a2 k
 obtain ⟨ih0, ih1, ih2⟩ := impl_field_named.mono_l k
 unfold impl_field_named.f
 repeat' first
   | (with_reducible exact ih0 _ _ _ _ _)
   | (with_reducible exact ih1 _ _ _ _ _ _ _ _)
   | (with_reducible exact ih2 _ _ _ _ _ _ _ _ _)
   | (with_reducible exact impl_field_inverse.mono _ _ _)
   | (with_reducible exact slices_Contains_string_string.mono _ _ _)
   | (with_reducible exact LeO.refl _)
   | (with_reducible exact LeO.none _)
   | (with_reducible refine LeO.ite ?_ ?_)
   | (with_reducible refine LeO.bind ?_ (fun _ => ?_))
   | exact ih0 _ _ _ _ _
   | exact ih1 _ _ _ _ _ _ _ _
   | exact ih2 _ _ _ _ _ _ _ _ _
   | exact impl_field_inverse.mono _ _ _
   | exact slices_Contains_string_string.mono _ _ _
   | exact LeO.none _
   | refine LeO.ite ?_ ?_
   | refine LeO.bind ?_ (fun _ => ?_)
def impl_field_named.T18 : Bool × List (List Nat × List Nat) := (true, [([], []), ([], []), ([], []), ([], []), ([2, 3], [2, 3]), ([4], [4]), ([], []), ([], []), ([7], [7]), ([], []), ([8, 9], [8, 9]), ([6, 10], [6, 10]), ([11], [11]), ([5, 12], [5, 12]), ([1, 13], [1, 13]), ([0, 14], [0, 14]), ([15, 15, 0, 1, 2, 3, 4, 5, 6, 7, 8, 9, 10, 11, 12, 13, 14, 15], [1, 15])])
def impl_field_named.B18 : List Nat := [0, 0, 0, 0, 12, 28, 0, 0, 128, 0, 896, 1984, 4032, 8188, 16382, 32767, 65535]
theorem impl_field_named.tab18 : rtab .any (opsOf Try.f125 18) = impl_field_named.T18 := by kernel_rfl
theorem impl_field_named.bits18 : waitsOk impl_field_named.T18.2 impl_field_named.B18 = true := by kernel_rfl
def impl_field_named.T25 : Bool × List (List Nat × List Nat) := (true, [([], []), ([], []), ([], []), ([], []), ([2, 3], [2, 3]), ([], []), ([], []), ([5, 6], [5, 6]), ([7], [7]), ([4, 8], [4, 8]), ([1, 9], [1, 9]), ([0, 10, 4], [0, 10]), ([11, 11, 0, 1, 2, 3, 4, 5, 6, 7, 8, 9, 10, 11], [1, 11])])
def impl_field_named.B25 : List Nat := [0, 0, 0, 0, 12, 0, 0, 96, 224, 508, 1022, 2047, 4095]
theorem impl_field_named.tab25 : rtab .any (opsOf Try.f125 25) = impl_field_named.T25 := by kernel_rfl
theorem impl_field_named.bits25 : waitsOk impl_field_named.T25.2 impl_field_named.B25 = true := by kernel_rfl
set_option maxHeartbeats 8000000 in
set_option maxRecDepth 100000 in
theorem impl_field_named.calls (k : Nat) (a0 : Int) (a1 : ByteArray) (a2 : Int) (r1 : List Int) (r2 : Bool) (w : World) (h : impl_field_named.f k a0 a1 a2 = some (r1, r2)) :
  Calls Try.prog 125 #[.int .i64 a0, .string a1, .int .i64 a2] w fun e w' => ∃ v0_ : Value, e = .returned (.tuple #[v0_, .bool r2]) ∧ Kd.R (Kd.int .i64) 2 w' w.heap.size (fun _ => True) v0_ r1 ∧ Below w.heap.size w w' := by
 have HB := Aside0.mk (Below.refl w.heap.size w)
 have H : ((impl_field_mod.f a0 1).bind fun t1437 => (impl_field_named.l0 k a0 a1 a2 (([t1437] : List Int)) 1)) = some (r1, r2) := h
 clear h
 replace H := Option.bind_eq_some_iff.mp H
 obtain ⟨t1437, A40, H⟩ := H
 replace H : (impl_field_named.l0 k a0 a1 a2 (([t1437] : List Int)) 1) = some (r1, r2) := H
 have A4 := Aside0.mk A40
 clear A40
 obtain ⟨y1438, hy1438⟩ : ∃ y_ : List Int, y_ = (([t1437] : List Int)) := ⟨_, rfl⟩
 replace H : (impl_field_named.l0 k a0 a1 a2 y1438 1) = some (r1, r2) := by first | (rw [hy1438]; with_reducible exact H) | (have H2_ := (Option.bind_some _ _).symm.trans H; rw [hy1438]; with_reducible exact H2_) | (have H2_ := (Option.bind_some _ _).symm.trans H; with_reducible exact H2_) | with_reducible exact H | (rw [hy1438]; exact H) | exact H
 have Ny1438 := Aside0.mk hy1438
 clear hy1438
 have H' := Aside0.mk H
 clear H
 go_enter Try.func125, Try.ntmps125
 go_wp2_with (first | ((with_reducible refine gate_callee (f := 97) rfl ?_); refine goesL_ (some 15) rfl rfl Try.func97 (by kernel_rfl) rfl #[.int .i64 a0, .int .i64 1] rfl ZA ?_; (with_reducible refine (impl_field_mod.calls a0 1 t1437 _ A4.out).mono ?_); rintro e w' ⟨rfl, ⟨nd, rfl⟩⟩; refine ⟨_, rfl, ?_⟩) | ((with_reducible refine gate_dst (N := 16) rfl ?_); refine Kd.R_lit (Kd.int .i64) _ 2 ?hg (N := 16) ?hd (xs := ([t1437] : List Int)) (inner := [.int .i64 t1437]) (ok := fun _ => True) (okp := fun _ => True) ?hr ?hp (fun _ hk => hk) trivial (Below.refl _ _) (Nat.le_refl _) (by simp) ?_; (case hd => rfl); (case hg => rfl); (case hr => first | (go_simp; done) | (go_simp; rfl)); (case hp => exact (Reps.one (show Kd.M (Kd.int .i64) _ _ _ t1437 [.int .i64 t1437] from rfl) (Reps.none _ _))); intro v1439 w5 ho6 hb hg_ hnew_; clear hg_ hnew_; (first | rw [← Ny1438.out] at ho6 | (simp only [Int.reduceToNat] at ho6; rw [← Ny1438.out] at ho6)); have n0_ := Aside0.mk (Kd.R_lower ho6 (below_size ZB)); have n1_ := Aside0.mk (below_step ZB hb); clear HB; have HO1440 := n0_; have HB := n1_; clear n0_ n1_; clear hb ho6))
 go_loopg [8, 9] k (fun kq v8 v9 w' => ∃ (x8_1 : List Int) (x9_1 : Int), v9 = .int .i64 x9_1 ∧ Aside0 (impl_field_named.l0 kq a0 a1 a2 x8_1 x9_1 = some (r1, r2)) ∧ Aside0 (kq ≤ k) ∧ Aside0 (Kd.R (Kd.int .i64) 2 w' w.heap.size (fun _ => True) v8 x8_1) ∧ Aside0 (Below w.heap.size w w'))
 case atStart => exact ⟨(y1438), (1), (by first | rfl | (simp; done) | (simp [*]; done)), H', ⟨Nat.le_refl _⟩, ⟨ZR HO1440⟩, ⟨ZB⟩⟩
 case round =>
  clear H'
  try clear c1
  try clear p2
  obtain ⟨x8_1, x9_1, rfl, HA, HK1, HO_8, HB⟩ := hrel
  cases gk with
  | zero => exact absurd HA.out (by simp [impl_field_named.l0])
  | succ k1 =>
   have H := HA.out
   clear HA
   simp only [impl_field_named.l0] at H
   by_cases c7 : x9_1 < a2
   ·rw [if_pos c7] at H
    have c7b0 : decide (x9_1 < a2) = true := decide_eq_true c7
    clear c7
    by_cases c8 : a1.toList = ([117, 110, 105, 102, 111, 114, 109] : List UInt8)
    ·rw [if_pos c8] at H
     have c8b0 : (a1.toList == ([117, 110, 105, 102, 111, 114, 109] : List UInt8)) = true := beq_iff_eq.mpr c8
     have c8b1 : (a1.toList != ([117, 110, 105, 102, 111, 114, 109] : List UInt8)) = false := bne_eq_false_iff_eq.mpr c8
     clear c8
     replace H := Option.bind_eq_some_iff.mp H
     obtain ⟨t1445, A90, H⟩ := H
     replace H : ((impl_field_inverse.f k1 a0 t1445).bind fun t1446 => (if x8_1.length < 17592186044416 then (impl_field_named.l0 k1 a0 a1 a2 (x8_1 ++ [t1446]) (wrap64 (x9_1 + 1))) else (none))) = some (r1, r2) := H
     have A9 := Aside0.mk A90
     clear A90
     replace H := Option.bind_eq_some_iff.mp H
     obtain ⟨t1446, A100, H⟩ := H
     replace H : (if x8_1.length < 17592186044416 then (impl_field_named.l0 k1 a0 a1 a2 (x8_1 ++ [t1446]) (wrap64 (x9_1 + 1))) else (none)) = some (r1, r2) := H
     have A10 := Aside0.mk A100
     clear A100
     by_cases c11 : x8_1.length < 17592186044416
     ·rw [if_pos c11] at H
      have LMc11 := Aside0.mk c11
      clear c11
      obtain ⟨y1447, hy1447⟩ : ∃ y_ : List Int, y_ = (x8_1 ++ [t1446]) := ⟨_, rfl⟩
      replace H : (impl_field_named.l0 k1 a0 a1 a2 y1447 (wrap64 (x9_1 + 1))) = some (r1, r2) := by first | (rw [hy1447]; with_reducible exact H) | (have H2_ := (Option.bind_some _ _).symm.trans H; rw [hy1447]; with_reducible exact H2_) | (have H2_ := (Option.bind_some _ _).symm.trans H; with_reducible exact H2_) | with_reducible exact H | (rw [hy1447]; exact H) | exact H
      have Ny1447 := Aside0.mk hy1447
      clear hy1447
      have H' := Aside0.mk H
      clear H
      go_wp2_with (first | ((with_reducible refine gate_callee (f := 97) rfl ?_); refine goesL_ (some 29) rfl rfl Try.func97 (by kernel_rfl) rfl #[.int .i64 a0, .int .i64 (wrap64 (x9_1 + 1))] rfl ZA ?_; (with_reducible refine (impl_field_mod.calls a0 (wrap64 (x9_1 + 1)) t1445 _ A9.out).mono ?_); rintro e w' ⟨rfl, ⟨nd, rfl⟩⟩; refine ⟨_, rfl, ?_⟩) | ((with_reducible refine gate_callee (f := 119) rfl ?_); refine goesL_ (some 30) rfl rfl Try.func119 (by kernel_rfl) rfl #[.int .i64 a0, .int .i64 t1445] rfl ZA ?_; (with_reducible refine (impl_field_inverse.calls k1 a0 t1445 t1446 _ A10.out).mono ?_); rintro e w' ⟨rfl, ⟨nd, rfl⟩⟩; refine ⟨_, rfl, ?_⟩) | ((with_reducible refine gate_builtin (b := .append) (xs := #[.tmp 106, .tmp 108]) rfl ?_); at_builtin; refine Kd.R_append (Kd.int .i64) (w0 := w) w.heap.size rfl (.tmp 106) (.tmp 108) 22 2 (.int .i64 0) 8 rfl Try.underlying22 info2 rfl (by decide) (by omega) u8 x8_1 t1446 [.int .i64 t1446] (fun _ => True) (fun _ => False) rfl rfl ?aP (fun _ hk => hk.elim) ?aF ?aO ?aB ?aS ?aL ?_; (case aP => exact rfl); (case aB => exact ZB); (case aF => exact (fun _ _ => trivial)); (case aO => exact (ZR HO_8)); (case aS => exact (below_size ZB)); (case aL => have := LMc11.out; omega); intro v1448 w12 ho hb hg hat; rw [← Ny1447.out] at ho; have n0_ := Aside0.mk (hb); have n1_ := Aside0.mk (ho); clear HB; clear HO_8; have HB := n0_; have HO1449 := n1_; clear n0_ n1_; clear ho hb hg hat))
      go_roundg k1
      case measure => have := HK1.out; omega
      case rel => exact ⟨(y1447), (wrap64 (x9_1 + 1)), (by first | rfl | (simp; done) | (simp [*]; done)), H', ⟨by have := HK1.out; omega⟩, ⟨ZR HO1449⟩, ⟨ZB⟩⟩
     ·rw [if_neg c11] at H
      exact absurd H (by simp)
    ·rw [if_neg c8] at H
     have c8b0 : (a1.toList == ([117, 110, 105, 102, 111, 114, 109] : List UInt8)) = false := beq_eq_false_iff_ne.mpr c8
     have c8b1 : (a1.toList != ([117, 110, 105, 102, 111, 114, 109] : List UInt8)) = true := bne_iff_ne.mpr c8
     by_cases c13 : a1.toList = ([108, 97, 103, 117, 101, 114, 114, 101] : List UInt8)
     ·rw [if_pos c13] at H
      have c13b0 : (a1.toList == ([108, 97, 103, 117, 101, 114, 114, 101] : List UInt8)) = true := beq_iff_eq.mpr c13
      have c13b1 : (a1.toList != ([108, 97, 103, 117, 101, 114, 114, 101] : List UInt8)) = false := bne_eq_false_iff_eq.mpr c13
      clear c13
      obtain ⟨ji14, hji14⟩ : ∃ j_ : Int, (wrap64 (x9_1 - 1)) = j_ := ⟨_, rfl⟩
      replace H : (if 0 ≤ (ji14) then (if (ji14) < (x8_1.length : Int) then ((impl_field_mul.f a0 (rd x8_1 (ji14)) x9_1).bind fun t1451 => (if x8_1.length < 17592186044416 then (impl_field_named.l0 k1 a0 a1 a2 (x8_1 ++ [t1451]) (wrap64 (x9_1 + 1))) else (none))) else (none)) else (none)) = some (r1, r2) := by first | (rw [hji14] at H; exact H) | (simp only [hji14] at H ⊢; exact H)
      have hji14w : (IntKind.i64.wrap (x9_1 - 1)) = ji14 := (i64_w _).trans hji14
      by_cases c15 : 0 ≤ (ji14)
      ·rw [if_pos c15] at H
       have c15b0 : decide (0 ≤ (ji14)) = true := decide_eq_true c15
       clear c15
       by_cases c16 : (ji14) < (x8_1.length : Int)
       ·rw [if_pos c16] at H
        have c16b0 : decide ((ji14) < (x8_1.length : Int)) = true := decide_eq_true c16
        clear c16
        replace H := Option.bind_eq_some_iff.mp H
        obtain ⟨t1451, A170, H⟩ := H
        replace H : (if x8_1.length < 17592186044416 then (impl_field_named.l0 k1 a0 a1 a2 (x8_1 ++ [t1451]) (wrap64 (x9_1 + 1))) else (none)) = some (r1, r2) := H
        have A17 := Aside0.mk A170
        clear A170
        by_cases c18 : x8_1.length < 17592186044416
        ·rw [if_pos c18] at H
         have LMc18 := Aside0.mk c18
         clear c18
         obtain ⟨y1452, hy1452⟩ : ∃ y_ : List Int, y_ = (x8_1 ++ [t1451]) := ⟨_, rfl⟩
         replace H : (impl_field_named.l0 k1 a0 a1 a2 y1452 (wrap64 (x9_1 + 1))) = some (r1, r2) := by first | (rw [hy1452]; with_reducible exact H) | (have H2_ := (Option.bind_some _ _).symm.trans H; rw [hy1452]; with_reducible exact H2_) | (have H2_ := (Option.bind_some _ _).symm.trans H; with_reducible exact H2_) | with_reducible exact H | (rw [hy1452]; exact H) | exact H
         have Ny1452 := Aside0.mk hy1452
         clear hy1452
         have H' := Aside0.mk H
         clear H
         obtain ⟨Ao19, co19, eo19⟩ := Kd.R_slice HO_8.out
         subst eo19
         have p1450 : 0 ≤ ((ji14) : Int) := of_decide_eq_true (by first | (with_reducible assumption) | assumption)
         have q1450 : (ji14) < (x8_1.length : Int) := of_decide_eq_true (by first | (with_reducible assumption) | assumption)
         obtain ⟨ad1450, e1450, hx1450_0⟩ := Kd.at_int (Kd.R_reads' HO_8.out).2.2 (ji14) p1450 q1450
         cases e1450
         replace p1450 := eq_true p1450
         replace q1450 := eq_true q1450
         go_wp2_with (first | ((with_reducible refine gate_callee (f := 101) rfl ?_); refine goesL_ (some 40) rfl rfl Try.func101 (by kernel_rfl) rfl #[.int .i64 a0, .int .i64 (rd x8_1 (ji14)), .int .i64 x9_1] rfl (by (try simp only [List.map_toArray, List.map_cons, List.map_nil]); first | done | (simp only [hji14]; rfl) | rfl | (simp only [List.length_drop, List.length_take]; rfl)) ?_; (with_reducible refine (impl_field_mul.calls a0 (rd x8_1 (ji14)) x9_1 t1451 _ A17.out).mono ?_); rintro e w' ⟨rfl, ⟨nd, rfl⟩⟩; refine ⟨_, rfl, ?_⟩) | ((with_reducible refine gate_builtin (b := .append) (xs := #[.tmp 106, .tmp 108]) rfl ?_); at_builtin; refine Kd.R_append (Kd.int .i64) (w0 := w) w.heap.size rfl (.tmp 106) (.tmp 108) 22 2 (.int .i64 0) 8 rfl Try.underlying22 info2 rfl (by decide) (by omega) (.slice (some ad1450) x8_1.length co19) x8_1 t1451 [.int .i64 t1451] (fun _ => True) (fun _ => False) rfl rfl ?aP (fun _ hk => hk.elim) ?aF ?aO ?aB ?aS ?aL ?_; (case aP => exact rfl); (case aB => exact ZB); (case aF => exact (fun _ _ => trivial)); (case aO => exact (ZR HO_8)); (case aS => exact (below_size ZB)); (case aL => have := LMc18.out; omega); intro v1453 w20 ho hb hg hat; rw [← Ny1452.out] at ho; have n0_ := Aside0.mk (hb); have n1_ := Aside0.mk (ho); clear HB; clear HO_8; have HB := n0_; have HO1454 := n1_; clear n0_ n1_; clear ho hb hg hat))
         go_roundg k1
         case measure => have := HK1.out; omega
         case rel => exact ⟨(y1452), (wrap64 (x9_1 + 1)), (by first | rfl | (simp; done) | (simp [*]; done)), H', ⟨by have := HK1.out; omega⟩, ⟨ZR HO1454⟩, ⟨ZB⟩⟩
        ·rw [if_neg c18] at H
         exact absurd H (by simp)
       ·rw [if_neg c16] at H
        exact absurd H (by simp)
      ·rw [if_neg c15] at H
       exact absurd H (by simp)
     ·rw [if_neg c13] at H
      have c13b0 : (a1.toList == ([108, 97, 103, 117, 101, 114, 114, 101] : List UInt8)) = false := beq_eq_false_iff_ne.mpr c13
      have c13b1 : (a1.toList != ([108, 97, 103, 117, 101, 114, 114, 101] : List UInt8)) = true := bne_iff_ne.mpr c13
      by_cases c21 : a1.toList = ([104, 101, 114, 109, 105, 116, 101] : List UInt8)
      ·rw [if_pos c21] at H
       have c21b0 : (a1.toList == ([104, 101, 114, 109, 105, 116, 101] : List UInt8)) = true := beq_iff_eq.mpr c21
       have c21b1 : (a1.toList != ([104, 101, 114, 109, 105, 116, 101] : List UInt8)) = false := bne_eq_false_iff_eq.mpr c21
       clear c21
       by_cases c22 : (Int.tmod x9_1 2) = 0
       ·rw [if_pos c22] at H
        have c22b0 : ((Int.tmod x9_1 2) == 0) = true := beq_iff_eq.mpr c22
        have c22b1 : ((Int.tmod x9_1 2) != 0) = false := bne_eq_false_iff_eq.mpr c22
        clear c22
        obtain ⟨ji23, hji23⟩ : ∃ j_ : Int, (wrap64 (x9_1 - 2)) = j_ := ⟨_, rfl⟩
        replace H : (if 0 ≤ (ji23) then (if (ji23) < (x8_1.length : Int) then ((impl_field_mul.f a0 (rd x8_1 (ji23)) (wrap64 (x9_1 - 1))).bind fun t1456 => (if x8_1.length < 17592186044416 then (impl_field_named.l0 k1 a0 a1 a2 (x8_1 ++ [t1456]) (wrap64 (x9_1 + 1))) else (none))) else (none)) else (none)) = some (r1, r2) := by first | (rw [hji23] at H; exact H) | (simp only [hji23] at H ⊢; exact H)
        have hji23w : (IntKind.i64.wrap (x9_1 - 2)) = ji23 := (i64_w _).trans hji23
        by_cases c24 : 0 ≤ (ji23)
        ·rw [if_pos c24] at H
         have c24b0 : decide (0 ≤ (ji23)) = true := decide_eq_true c24
         clear c24
         by_cases c25 : (ji23) < (x8_1.length : Int)
         ·rw [if_pos c25] at H
          have c25b0 : decide ((ji23) < (x8_1.length : Int)) = true := decide_eq_true c25
          clear c25
          replace H := Option.bind_eq_some_iff.mp H
          obtain ⟨t1456, A260, H⟩ := H
          replace H : (if x8_1.length < 17592186044416 then (impl_field_named.l0 k1 a0 a1 a2 (x8_1 ++ [t1456]) (wrap64 (x9_1 + 1))) else (none)) = some (r1, r2) := H
          have A26 := Aside0.mk A260
          clear A260
          by_cases c27 : x8_1.length < 17592186044416
          ·rw [if_pos c27] at H
           have LMc27 := Aside0.mk c27
           clear c27
           obtain ⟨y1457, hy1457⟩ : ∃ y_ : List Int, y_ = (x8_1 ++ [t1456]) := ⟨_, rfl⟩
           replace H : (impl_field_named.l0 k1 a0 a1 a2 y1457 (wrap64 (x9_1 + 1))) = some (r1, r2) := by first | (rw [hy1457]; with_reducible exact H) | (have H2_ := (Option.bind_some _ _).symm.trans H; rw [hy1457]; with_reducible exact H2_) | (have H2_ := (Option.bind_some _ _).symm.trans H; with_reducible exact H2_) | with_reducible exact H | (rw [hy1457]; exact H) | exact H
           have Ny1457 := Aside0.mk hy1457
           clear hy1457
           have H' := Aside0.mk H
           clear H
           obtain ⟨Ao28, co28, eo28⟩ := Kd.R_slice HO_8.out
           subst eo28
           have p1455 : 0 ≤ ((ji23) : Int) := of_decide_eq_true (by first | (with_reducible assumption) | assumption)
           have q1455 : (ji23) < (x8_1.length : Int) := of_decide_eq_true (by first | (with_reducible assumption) | assumption)
           obtain ⟨ad1455, e1455, hx1455_0⟩ := Kd.at_int (Kd.R_reads' HO_8.out).2.2 (ji23) p1455 q1455
           cases e1455
           replace p1455 := eq_true p1455
           replace q1455 := eq_true q1455
           go_wp2_with (first | ((with_reducible refine gate_callee (f := 101) rfl ?_); refine goesL_ (some 54) rfl rfl Try.func101 (by kernel_rfl) rfl #[.int .i64 a0, .int .i64 (rd x8_1 (ji23)), .int .i64 (wrap64 (x9_1 - 1))] rfl (by (try simp only [List.map_toArray, List.map_cons, List.map_nil]); first | done | (simp only [hji23]; rfl) | rfl | (simp only [List.length_drop, List.length_take]; rfl)) ?_; (with_reducible refine (impl_field_mul.calls a0 (rd x8_1 (ji23)) (wrap64 (x9_1 - 1)) t1456 _ A26.out).mono ?_); rintro e w' ⟨rfl, ⟨nd, rfl⟩⟩; refine ⟨_, rfl, ?_⟩) | ((with_reducible refine gate_builtin (b := .append) (xs := #[.tmp 106, .tmp 108]) rfl ?_); at_builtin; refine Kd.R_append (Kd.int .i64) (w0 := w) w.heap.size rfl (.tmp 106) (.tmp 108) 22 2 (.int .i64 0) 8 rfl Try.underlying22 info2 rfl (by decide) (by omega) (.slice (some ad1455) x8_1.length co28) x8_1 t1456 [.int .i64 t1456] (fun _ => True) (fun _ => False) rfl rfl ?aP (fun _ hk => hk.elim) ?aF ?aO ?aB ?aS ?aL ?_; (case aP => exact rfl); (case aB => exact ZB); (case aF => exact (fun _ _ => trivial)); (case aO => exact (ZR HO_8)); (case aS => exact (below_size ZB)); (case aL => have := LMc27.out; omega); intro v1458 w29 ho hb hg hat; rw [← Ny1457.out] at ho; have n0_ := Aside0.mk (hb); have n1_ := Aside0.mk (ho); clear HB; clear HO_8; have HB := n0_; have HO1459 := n1_; clear n0_ n1_; clear ho hb hg hat))
           go_roundg k1
           case measure => have := HK1.out; omega
           case rel => exact ⟨(y1457), (wrap64 (x9_1 + 1)), (by first | rfl | (simp; done) | (simp [*]; done)), H', ⟨by have := HK1.out; omega⟩, ⟨ZR HO1459⟩, ⟨ZB⟩⟩
          ·rw [if_neg c27] at H
           exact absurd H (by simp)
         ·rw [if_neg c25] at H
          exact absurd H (by simp)
        ·rw [if_neg c24] at H
         exact absurd H (by simp)
       ·rw [if_neg c22] at H
        have c22b0 : ((Int.tmod x9_1 2) == 0) = false := beq_eq_false_iff_ne.mpr c22
        have c22b1 : ((Int.tmod x9_1 2) != 0) = true := bne_iff_ne.mpr c22
        by_cases c30 : x8_1.length < 17592186044416
        ·rw [if_pos c30] at H
         have LMc30 := Aside0.mk c30
         clear c30
         obtain ⟨y1460, hy1460⟩ : ∃ y_ : List Int, y_ = (x8_1 ++ [0]) := ⟨_, rfl⟩
         replace H : (impl_field_named.l0 k1 a0 a1 a2 y1460 (wrap64 (x9_1 + 1))) = some (r1, r2) := by first | (rw [hy1460]; with_reducible exact H) | (have H2_ := (Option.bind_some _ _).symm.trans H; rw [hy1460]; with_reducible exact H2_) | (have H2_ := (Option.bind_some _ _).symm.trans H; with_reducible exact H2_) | with_reducible exact H | (rw [hy1460]; exact H) | exact H
         have Ny1460 := Aside0.mk hy1460
         clear hy1460
         have H' := Aside0.mk H
         clear H
         go_wp2_with (first | ((with_reducible refine gate_builtin (b := .append) (xs := #[.tmp 106, .tmp 108]) rfl ?_); at_builtin; refine Kd.R_append (Kd.int .i64) (w0 := w) w.heap.size rfl (.tmp 106) (.tmp 108) 22 2 (.int .i64 0) 8 rfl Try.underlying22 info2 rfl (by decide) (by omega) u8 x8_1 0 [.int .i64 0] (fun _ => True) (fun _ => False) rfl rfl ?aP (fun _ hk => hk.elim) ?aF ?aO ?aB ?aS ?aL ?_; (case aP => exact rfl); (case aB => exact ZB); (case aF => exact (fun _ _ => trivial)); (case aO => exact (ZR HO_8)); (case aS => exact (below_size ZB)); (case aL => have := LMc30.out; omega); intro v1461 w31 ho hb hg hat; rw [← Ny1460.out] at ho; have n0_ := Aside0.mk (hb); have n1_ := Aside0.mk (ho); clear HB; clear HO_8; have HB := n0_; have HO1462 := n1_; clear n0_ n1_; clear ho hb hg hat))
         go_roundg k1
         case measure => have := HK1.out; omega
         case rel => exact ⟨(y1460), (wrap64 (x9_1 + 1)), (by first | rfl | (simp; done) | (simp [*]; done)), H', ⟨by have := HK1.out; omega⟩, ⟨ZR HO1462⟩, ⟨ZB⟩⟩
        ·rw [if_neg c30] at H
         exact absurd H (by simp)
      ·rw [if_neg c21] at H
       have c21b0 : (a1.toList == ([104, 101, 114, 109, 105, 116, 101] : List UInt8)) = false := beq_eq_false_iff_ne.mpr c21
       have c21b1 : (a1.toList != ([104, 101, 114, 109, 105, 116, 101] : List UInt8)) = true := bne_iff_ne.mpr c21
       by_cases c32 : a1.toList = ([99, 97, 116, 97, 108, 97, 110] : List UInt8)
       ·rw [if_pos c32] at H
        have c32b0 : (a1.toList == ([99, 97, 116, 97, 108, 97, 110] : List UInt8)) = true := beq_iff_eq.mpr c32
        have c32b1 : (a1.toList != ([99, 97, 116, 97, 108, 97, 110] : List UInt8)) = false := bne_eq_false_iff_eq.mpr c32
        clear c32
        have H' := Aside0.mk H
        clear H
        go_wp2
        go_loopg [10, 58] k1 (fun kq v10 v58 w' => ∃ (x10_2 : Int) (x58_2 : Int), v10 = .int .i64 x10_2 ∧ v58 = .int .i64 x58_2 ∧ Aside0 (impl_field_named.l1 kq a0 a1 a2 x8_1 x9_1 x10_2 x9_1 x58_2 = some (r1, r2)) ∧ Aside0 (kq ≤ k1) ∧ Aside0 (Kd.R (Kd.int .i64) 2 w' w.heap.size (fun _ => True) u8 x8_1) ∧ Aside0 (Below w.heap.size w w'))
        case atStart => exact ⟨(0), (0), (by first | rfl | (simp; done) | (simp [*]; done)), (by first | rfl | (simp; done) | (simp [*]; done)), H', ⟨Nat.le_refl _⟩, ⟨ZR HO_8⟩, ⟨ZB⟩⟩
        case round =>
         clear H'
         try clear c1
         try clear p1
         try clear q1
         try clear hx1
         try clear c2
         try clear p2
         try clear c3
         try clear p6
         try clear c7
         try clear c7b0
         try clear c8
         try clear c8b0
         try clear c8b1
         try clear c9
         try clear c10
         try clear c11
         try clear c12
         try clear c13
         try clear c13b0
         try clear c13b1
         try clear p14
         try clear q14
         try clear hx14
         try clear c15
         try clear c15b0
         try clear c16
         try clear c16b0
         try clear c18
         try clear c21
         try clear c21b0
         try clear c21b1
         try clear c22
         try clear c22b0
         try clear c22b1
         try clear c24
         try clear c24b0
         try clear c25
         try clear c25b0
         try clear c27
         try clear c30
         try clear c32
         try clear c32b0
         try clear c32b1
         try clear hx1450_0
         try clear hx1455_0
         try clear p1450
         try clear p1455
         try clear p2
         try clear q1450
         try clear q1455
         obtain ⟨x10_2, x58_2, rfl, rfl, HA, HK2, HO_8, HB⟩ := hrel
         cases gk with
         | zero => exact absurd HA.out (by simp [impl_field_named.l1])
         | succ k2 =>
          have H := HA.out
          clear HA
          simp only [impl_field_named.l1] at H
          by_cases c33 : x58_2 < x9_1
          ·rw [if_pos c33] at H
           have c33b0 : decide (x58_2 < x9_1) = true := decide_eq_true c33
           clear c33
           by_cases c34 : 0 ≤ x58_2
           ·rw [if_pos c34] at H
            have c34b0 : decide (0 ≤ x58_2) = true := decide_eq_true c34
            clear c34
            by_cases c35 : x58_2 < (x8_1.length : Int)
            ·rw [if_pos c35] at H
             have c35b0 : decide (x58_2 < (x8_1.length : Int)) = true := decide_eq_true c35
             clear c35
             obtain ⟨ji36, hji36⟩ : ∃ j_ : Int, (wrap64 ((wrap64 (x9_1 - 1)) - x58_2)) = j_ := ⟨_, rfl⟩
             replace H : (if 0 ≤ (ji36) then (if (ji36) < (x8_1.length : Int) then ((impl_field_mod.f a0 (wrap64 (x10_2 + (wrap64 ((rd x8_1 x58_2) * (rd x8_1 (ji36))))))).bind fun t1465 => (impl_field_named.l1 k2 a0 a1 a2 x8_1 x9_1 t1465 x9_1 (wrap64 (x58_2 + 1)))) else (none)) else (none)) = some (r1, r2) := by first | (rw [hji36] at H; exact H) | (simp only [hji36] at H ⊢; exact H)
             have hji36w : (IntKind.i64.wrap ((wrap64 (x9_1 - 1)) - x58_2)) = ji36 := (i64_w _).trans hji36
             by_cases c37 : 0 ≤ (ji36)
             ·rw [if_pos c37] at H
              have c37b0 : decide (0 ≤ (ji36)) = true := decide_eq_true c37
              clear c37
              by_cases c38 : (ji36) < (x8_1.length : Int)
              ·rw [if_pos c38] at H
               have c38b0 : decide ((ji36) < (x8_1.length : Int)) = true := decide_eq_true c38
               clear c38
               replace H := Option.bind_eq_some_iff.mp H
               obtain ⟨t1465, A390, H⟩ := H
               replace H : (impl_field_named.l1 k2 a0 a1 a2 x8_1 x9_1 t1465 x9_1 (wrap64 (x58_2 + 1))) = some (r1, r2) := H
               have A39 := Aside0.mk A390
               clear A390
               have H' := Aside0.mk H
               clear H
               try go_wp2
               have n0_ := Aside0.mk (Kd.R_drew HO_8.out)
               have n1_ := Aside0.mk (below_drew1 HB.out)
               clear HO_8
               clear HB
               have HO_8 := n0_
               have HB := n1_
               clear n0_ n1_
               obtain ⟨Ao41, co41, eo41⟩ := Kd.R_slice HO_8.out
               (first | subst eo41 | (injection eo41 with f1_ f2_ f3_; have f4_ := f1_.symm; have f5_ := f3_.symm; clear f1_ f2_ f3_; subst f4_; subst f5_))
               have p1463 : 0 ≤ (x58_2 : Int) := of_decide_eq_true (by first | (with_reducible assumption) | assumption)
               have q1463 : x58_2 < (x8_1.length : Int) := of_decide_eq_true (by first | (with_reducible assumption) | assumption)
               obtain ⟨ad1463, e1463, hx1463_0⟩ := Kd.at_int (Kd.R_reads' HO_8.out).2.2 x58_2 p1463 q1463
               cases e1463
               replace p1463 := eq_true p1463
               replace q1463 := eq_true q1463
               have p1464 : 0 ≤ ((ji36) : Int) := of_decide_eq_true (by first | (with_reducible assumption) | assumption)
               have q1464 : (ji36) < (x8_1.length : Int) := of_decide_eq_true (by first | (with_reducible assumption) | assumption)
               obtain ⟨ad1464, e1464, hx1464_0⟩ := Kd.at_int (Kd.R_reads' HO_8.out).2.2 (ji36) p1464 q1464
               obtain rfl : ad1463 = ad1464 := (by injection e1464)
               replace p1464 := eq_true p1464
               replace q1464 := eq_true q1464
               refine start_ (n := 17) (S := fun w' => w'.cell? (ad1463.add (x58_2).toNat) = some (.int .i64 (rd x8_1 x58_2)) ∧ w'.cell? (ad1463.add ((ji36)).toNat) = some (.int .i64 (rd x8_1 (ji36)))) (ds := []) #[false, false, false, false, false, false, false, false, false, false, false, false, false, false, false, false, false] (by kernel_rfl) rfl rfl ⟨hx1463_0, hx1464_0⟩ (fun hHeld => ?_); refine with_tabW impl_field_named.tab18 impl_field_named.bits18 (fun HT_ HW_ => ?_)
               generalize wr.drew = w40 at HO_8 HB hx1463_0 hx1464_0 hHeld ⊢
               refine Zpt 0 (some 61) (h := ?_)
               refine Zpt 1 (some 62) (h := ?_)
               refine Zpt 2 (some 63) (h := ?_)
               refine Zpt 3 (some 64) (h := ?_)
               refine Zpt 4 (some 65) (h := ?_)
               refine Zpt 6 (some 67) (h := ?_)
               refine Zpt 7 (some 68) (h := ?_)
               refine Zpt 8 (some 69) (h := ?_)
               refine Zpt 9 (some 70) (h := ?_)
               refine Zpt 10 (some 71) (h := ?_)
               refine Zpt 11 (some 72) (h := ?_)
               refine ZtW2 5 (some 66) hHeld (h := ?_)
               refine ZtW2 12 (some 73) hHeld (h := ?_)
               refine Zpt 13 (some 74) (h := ?_)
               refine Zpt 14 (some 75) (h := ?_)
               refine one_ (i := 15) (N := some 76) #[true, true, true, true, true, true, true, true, true, true, true, true, true, true, true, true, false] rfl rfl (one_of HT_.out (by kernel_rfl)) (by decide) (fun K hK => ?_)
               refine goes_ Try.func97 (by kernel_rfl) rfl #[.int .i64 a0, .int .i64 (wrap64 (x10_2 + (wrap64 ((rd x8_1 x58_2) * (rd x8_1 (ji36))))))] (by rfl) rfl rfl (by (try simp only [List.map_toArray, List.map_cons, List.map_nil]); first | done | (simp only [hji36]; rfl) | rfl | (simp only [List.length_drop, List.length_take]; rfl)) ?_
               with_reducible refine (impl_field_mod.calls a0 (wrap64 (x10_2 + (wrap64 ((rd x8_1 x58_2) * (rd x8_1 (ji36)))))) t1465 _ A39.out).mono ?_
               rintro e w' ⟨rfl, ⟨nd, rfl⟩⟩
               refine ⟨_, rfl, ?_⟩
               refine hK.out _ _ ⟨hHeld.1, hHeld.2⟩ (fun hHeld => ?_)
               clear hK K
               refine norm_ (a' := ?_) ?_ ?_
               rotate_left
               ·show Act.put _ (some 76) _ = _
                simp only [Act.put, List.setIfInBounds_toArray, List.set_cons_zero, List.set_cons_succ, i64_w, i32_w]
                rfl
               refine Zpt 16 (some 10) (h := ?_)
               refine done_ (done_of HT_.out (by kernel_rfl)) ?_
               try go_wp2
               go_roundg k2
               case measure => have := HK1.out; have := HK2.out; omega
               case rel => exact ⟨(t1465), (wrap64 (x58_2 + 1)), (by first | rfl | (simp; done) | (simp [*]; done)), (by first | rfl | (simp; done) | (simp [*]; done)), H', ⟨by have := HK1.out; have := HK2.out; omega⟩, ⟨ZR HO_8⟩, ⟨ZB⟩⟩
              ·rw [if_neg c38] at H
               exact absurd H (by simp)
             ·rw [if_neg c37] at H
              exact absurd H (by simp)
            ·rw [if_neg c35] at H
             exact absurd H (by simp)
           ·rw [if_neg c34] at H
            exact absurd H (by simp)
          ·rw [if_neg c33] at H
           have c33b0 : decide (x58_2 < x9_1) = false := decide_eq_false c33
           clear c33
           by_cases c42 : x8_1.length < 17592186044416
           ·rw [if_pos c42] at H
            have LMc42 := Aside0.mk c42
            clear c42
            obtain ⟨y1466, hy1466⟩ : ∃ y_ : List Int, y_ = (x8_1 ++ [x10_2]) := ⟨_, rfl⟩
            replace H : (impl_field_named.l0 k2 a0 a1 a2 y1466 (wrap64 (x9_1 + 1))) = some (r1, r2) := by first | (rw [hy1466]; with_reducible exact H) | (have H2_ := (Option.bind_some _ _).symm.trans H; rw [hy1466]; with_reducible exact H2_) | (have H2_ := (Option.bind_some _ _).symm.trans H; with_reducible exact H2_) | with_reducible exact H | (rw [hy1466]; exact H) | exact H
            have Ny1466 := Aside0.mk hy1466
            clear hy1466
            have H' := Aside0.mk H
            clear H
            go_wp2_with (first | ((with_reducible refine gate_builtin (b := .append) (xs := #[.tmp 106, .tmp 108]) rfl ?_); at_builtin; refine Kd.R_append (Kd.int .i64) (w0 := w) w.heap.size rfl (.tmp 106) (.tmp 108) 22 2 (.int .i64 0) 8 rfl Try.underlying22 info2 rfl (by decide) (by omega) u8 x8_1 x10_2 [.int .i64 x10_2] (fun _ => True) (fun _ => False) rfl rfl ?aP (fun _ hk => hk.elim) ?aF ?aO ?aB ?aS ?aL ?_; (case aP => exact rfl); (case aB => exact ZB); (case aF => exact (fun _ _ => trivial)); (case aO => exact (ZR HO_8)); (case aS => exact (below_size ZB)); (case aL => have := LMc42.out; omega); intro v1467 w43 ho hb hg hat; rw [← Ny1466.out] at ho; have n0_ := Aside0.mk (hb); have n1_ := Aside0.mk (ho); clear HB; clear HO_8; have HB := n0_; have HO1468 := n1_; clear n0_ n1_; clear ho hb hg hat))
            go_roundg k2
            case measure => have := HK1.out; have := HK2.out; omega
            case rel => exact ⟨(y1466), (wrap64 (x9_1 + 1)), (by first | rfl | (simp; done) | (simp [*]; done)), H', ⟨by have := HK1.out; have := HK2.out; omega⟩, ⟨ZR HO1468⟩, ⟨ZB⟩⟩
           ·rw [if_neg c42] at H
            exact absurd H (by simp)
       ·rw [if_neg c32] at H
        have c32b0 : (a1.toList == ([99, 97, 116, 97, 108, 97, 110] : List UInt8)) = false := beq_eq_false_iff_ne.mpr c32
        have c32b1 : (a1.toList != ([99, 97, 116, 97, 108, 97, 110] : List UInt8)) = true := bne_iff_ne.mpr c32
        by_cases c44 : a1.toList = ([112, 111, 105, 115, 115, 111, 110] : List UInt8)
        ·rw [if_pos c44] at H
         have c44b0 : (a1.toList == ([112, 111, 105, 115, 115, 111, 110] : List UInt8)) = true := beq_iff_eq.mpr c44
         have c44b1 : (a1.toList != ([112, 111, 105, 115, 115, 111, 110] : List UInt8)) = false := bne_eq_false_iff_eq.mpr c44
         clear c44
         have H' := Aside0.mk H
         clear H
         go_wp2
         go_loopg [10, 12, 81] k1 (fun kq v10 v12 v81 w' => ∃ (x10_2 : Int) (x12_2 : Int) (x81_2 : Int), v10 = .int .i64 x10_2 ∧ v12 = .int .i64 x12_2 ∧ v81 = .int .i64 x81_2 ∧ Aside0 (impl_field_named.l2 kq a0 a1 a2 x8_1 x9_1 x10_2 x12_2 x9_1 x81_2 = some (r1, r2)) ∧ Aside0 (kq ≤ k1) ∧ Aside0 (Kd.R (Kd.int .i64) 2 w' w.heap.size (fun _ => True) u8 x8_1) ∧ Aside0 (Below w.heap.size w w'))
         case atStart => exact ⟨(0), (1), (0), (by first | rfl | (simp; done) | (simp [*]; done)), (by first | rfl | (simp; done) | (simp [*]; done)), (by first | rfl | (simp; done) | (simp [*]; done)), H', ⟨Nat.le_refl _⟩, ⟨ZR HO_8⟩, ⟨ZB⟩⟩
         case round =>
          clear H'
          try clear c1
          try clear p1
          try clear q1
          try clear hx1
          try clear c2
          try clear p2
          try clear c3
          try clear c4
          try clear p6
          try clear c7
          try clear c7b0
          try clear c8
          try clear c8b0
          try clear c8b1
          try clear c9
          try clear c10
          try clear c11
          try clear c12
          try clear c13
          try clear c13b0
          try clear c13b1
          try clear p14
          try clear q14
          try clear hx14
          try clear c15
          try clear c15b0
          try clear c16
          try clear c16b0
          try clear c18
          try clear c21
          try clear c21b0
          try clear c21b1
          try clear c22
          try clear c22b0
          try clear c22b1
          try clear c24
          try clear c24b0
          try clear c25
          try clear c25b0
          try clear c27
          try clear c30
          try clear c32
          try clear c32b0
          try clear c32b1
          try clear c33
          try clear c33b0
          try clear c34
          try clear c34b0
          try clear c35
          try clear c35b0
          try clear c37
          try clear c37b0
          try clear c38
          try clear c38b0
          try clear c42
          try clear c44
          try clear c44b0
          try clear c44b1
          try clear hx1450_0
          try clear hx1455_0
          try clear hx1463_0
          try clear hx1464_0
          try clear p1
          try clear p14
          try clear p1450
          try clear p1455
          try clear p1463
          try clear p1464
          try clear p2
          try clear p6
          try clear q1
          try clear q14
          try clear q1450
          try clear q1455
          try clear q1463
          try clear q1464
          obtain ⟨x10_2, x12_2, x81_2, rfl, rfl, rfl, HA, HK2, HO_8, HB⟩ := hrel
          cases gk with
          | zero => exact absurd HA.out (by simp [impl_field_named.l2])
          | succ k2 =>
           have H := HA.out
           clear HA
           simp only [impl_field_named.l2] at H
           by_cases c45 : x81_2 < x9_1
           ·rw [if_pos c45] at H
            have c45b0 : decide (x81_2 < x9_1) = true := decide_eq_true c45
            clear c45
            replace H := Option.bind_eq_some_iff.mp H
            obtain ⟨t1469, A460, H⟩ := H
            replace H : (if 0 ≤ x81_2 then (if x81_2 < (x8_1.length : Int) then ((impl_field_mod.f a0 (wrap64 (x10_2 + (wrap64 (t1469 * (rd x8_1 x81_2)))))).bind fun t1471 => (if (wrap64 (x81_2 + 1)) = 0 then (none) else (impl_field_named.l2 k2 a0 a1 a2 x8_1 x9_1 t1471 (wrap64 (Int.tdiv (wrap64 (x12_2 * (wrap64 ((wrap64 (x9_1 - 1)) - x81_2)))) (wrap64 (x81_2 + 1)))) x9_1 (wrap64 (x81_2 + 1))))) else (none)) else (none)) = some (r1, r2) := H
            have A46 := Aside0.mk A460
            clear A460
            by_cases c47 : 0 ≤ x81_2
            ·rw [if_pos c47] at H
             have c47b0 : decide (0 ≤ x81_2) = true := decide_eq_true c47
             clear c47
             by_cases c48 : x81_2 < (x8_1.length : Int)
             ·rw [if_pos c48] at H
              have c48b0 : decide (x81_2 < (x8_1.length : Int)) = true := decide_eq_true c48
              clear c48
              replace H := Option.bind_eq_some_iff.mp H
              obtain ⟨t1471, A490, H⟩ := H
              replace H : (if (wrap64 (x81_2 + 1)) = 0 then (none) else (impl_field_named.l2 k2 a0 a1 a2 x8_1 x9_1 t1471 (wrap64 (Int.tdiv (wrap64 (x12_2 * (wrap64 ((wrap64 (x9_1 - 1)) - x81_2)))) (wrap64 (x81_2 + 1)))) x9_1 (wrap64 (x81_2 + 1)))) = some (r1, r2) := H
              have A49 := Aside0.mk A490
              clear A490
              by_cases c50 : (wrap64 (x81_2 + 1)) = 0
              ·rw [if_pos c50] at H
               exact absurd H (by simp)
              ·rw [if_neg c50] at H
               have c50b0 : ((wrap64 (x81_2 + 1)) == 0) = false := beq_eq_false_iff_ne.mpr c50
               have c50b1 : ((wrap64 (x81_2 + 1)) != 0) = true := bne_iff_ne.mpr c50
               have H' := Aside0.mk H
               clear H
               try go_wp2
               have n0_ := Aside0.mk (Kd.R_drew HO_8.out)
               have n1_ := Aside0.mk (below_drew1 HB.out)
               clear HO_8
               clear HB
               have HO_8 := n0_
               have HB := n1_
               clear n0_ n1_
               obtain ⟨Ao52, co52, eo52⟩ := Kd.R_slice HO_8.out
               (first | subst eo52 | (injection eo52 with f1_ f2_ f3_; have f4_ := f1_.symm; have f5_ := f3_.symm; clear f1_ f2_ f3_; subst f4_; subst f5_))
               have p1470 : 0 ≤ (x81_2 : Int) := of_decide_eq_true (by first | (with_reducible assumption) | assumption)
               have q1470 : x81_2 < (x8_1.length : Int) := of_decide_eq_true (by first | (with_reducible assumption) | assumption)
               obtain ⟨ad1470, e1470, hx1470_0⟩ := Kd.at_int (Kd.R_reads' HO_8.out).2.2 x81_2 p1470 q1470
               cases e1470
               replace p1470 := eq_true p1470
               replace q1470 := eq_true q1470
               refine start_ (n := 13) (S := fun w' => w'.cell? (ad1470.add (x81_2).toNat) = some (.int .i64 (rd x8_1 x81_2))) (ds := []) #[false, false, false, false, false, false, false, false, false, false, false, false, false] (by kernel_rfl) rfl rfl (hx1470_0) (fun hHeld => ?_); refine with_tabW impl_field_named.tab25 impl_field_named.bits25 (fun HT_ HW_ => ?_)
               generalize wr.drew = w51 at HO_8 HB hx1470_0 hHeld ⊢
               refine Zpt 0 (some 84) (h := ?_)
               refine Zpt 1 (some 85) (h := ?_)
               refine Zpt 2 (some 86) (h := ?_)
               refine Zpt 3 (some 87) (h := ?_)
               refine Zpt 5 (some 89) (h := ?_)
               refine Zpt 6 (some 90) (h := ?_)
               refine Zpt 7 (some 91) (h := ?_)
               refine take_ (i := 8) (N := some 92) (v := ?_) (a' := ?_) #[true, true, true, true, false, true, true, true, true, false, false, false, false] rfl rfl (take_ofW HT_.out HW_.out (by kernel_rfl)) (fun _ _ _ h => h) (Or.inl ⟨by rfl, ?_⟩) hHeld ?_ ?_
               rotate_left
               ·intro w' s0
                go_simp
                with_reducible rfl
               rotate_left
               ·exact ZW
               refine one_ (i := 4) (N := some 88) #[true, true, true, true, true, true, true, true, true, false, false, false, false] rfl rfl (one_of HT_.out (by kernel_rfl)) (by decide) (fun K hK => ?_)
               refine goes_ Try.func97 (by kernel_rfl) rfl #[.int .i64 a0, .int .i64 x12_2] (by rfl) rfl rfl ZA ?_
               with_reducible refine (impl_field_mod.calls a0 x12_2 t1469 _ A46.out).mono ?_
               rintro e w' ⟨rfl, ⟨nd, rfl⟩⟩
               refine ⟨_, rfl, ?_⟩
               refine hK.out _ _ (hHeld) (fun hHeld => ?_)
               clear hK K
               refine norm_ (a' := ?_) ?_ ?_
               rotate_left
               ·show Act.put _ (some 88) _ = _
                simp only [Act.put, List.setIfInBounds_toArray, List.set_cons_zero, List.set_cons_succ, i64_w, i32_w]
                rfl
               refine Zpt 9 (some 93) (h := ?_)
               refine Zpt 10 (some 94) (h := ?_)
               refine one_ (i := 11) (N := some 95) #[true, true, true, true, true, true, true, true, true, true, true, true, false] rfl rfl (one_of HT_.out (by kernel_rfl)) (by decide) (fun K hK => ?_)
               refine goes_ Try.func97 (by kernel_rfl) rfl #[.int .i64 a0, .int .i64 (wrap64 (x10_2 + (wrap64 (t1469 * (rd x8_1 x81_2)))))] (by rfl) rfl rfl ZA ?_
               with_reducible refine (impl_field_mod.calls a0 (wrap64 (x10_2 + (wrap64 (t1469 * (rd x8_1 x81_2))))) t1471 _ A49.out).mono ?_
               rintro e w' ⟨rfl, ⟨nd, rfl⟩⟩
               refine ⟨_, rfl, ?_⟩
               refine hK.out _ _ (hHeld) (fun hHeld => ?_)
               clear hK K
               refine norm_ (a' := ?_) ?_ ?_
               rotate_left
               ·show Act.put _ (some 95) _ = _
                simp only [Act.put, List.setIfInBounds_toArray, List.set_cons_zero, List.set_cons_succ, i64_w, i32_w]
                rfl
               refine Zpt 12 (some 10) (h := ?_)
               refine done_ (done_of HT_.out (by kernel_rfl)) ?_
               try go_wp2
               go_roundg k2
               case measure => have := HK1.out; have := HK2.out; omega
               case rel => exact ⟨(t1471), (wrap64 (Int.tdiv (wrap64 (x12_2 * (wrap64 ((wrap64 (x9_1 - 1)) - x81_2)))) (wrap64 (x81_2 + 1)))), (wrap64 (x81_2 + 1)), (by first | rfl | (simp; done) | (simp [*]; done)), (by first | rfl | (simp; done) | (simp [*]; done)), (by first | rfl | (simp; done) | (simp [*]; done)), H', ⟨by have := HK1.out; have := HK2.out; omega⟩, ⟨ZR HO_8⟩, ⟨ZB⟩⟩
             ·rw [if_neg c48] at H
              exact absurd H (by simp)
            ·rw [if_neg c47] at H
             exact absurd H (by simp)
           ·rw [if_neg c45] at H
            have c45b0 : decide (x81_2 < x9_1) = false := decide_eq_false c45
            clear c45
            by_cases c53 : x8_1.length < 17592186044416
            ·rw [if_pos c53] at H
             have LMc53 := Aside0.mk c53
             clear c53
             obtain ⟨y1472, hy1472⟩ : ∃ y_ : List Int, y_ = (x8_1 ++ [x10_2]) := ⟨_, rfl⟩
             replace H : (impl_field_named.l0 k2 a0 a1 a2 y1472 (wrap64 (x9_1 + 1))) = some (r1, r2) := by first | (rw [hy1472]; with_reducible exact H) | (have H2_ := (Option.bind_some _ _).symm.trans H; rw [hy1472]; with_reducible exact H2_) | (have H2_ := (Option.bind_some _ _).symm.trans H; with_reducible exact H2_) | with_reducible exact H | (rw [hy1472]; exact H) | exact H
             have Ny1472 := Aside0.mk hy1472
             clear hy1472
             have H' := Aside0.mk H
             clear H
             go_wp2_with (first | ((with_reducible refine gate_builtin (b := .append) (xs := #[.tmp 106, .tmp 108]) rfl ?_); at_builtin; refine Kd.R_append (Kd.int .i64) (w0 := w) w.heap.size rfl (.tmp 106) (.tmp 108) 22 2 (.int .i64 0) 8 rfl Try.underlying22 info2 rfl (by decide) (by omega) u8 x8_1 x10_2 [.int .i64 x10_2] (fun _ => True) (fun _ => False) rfl rfl ?aP (fun _ hk => hk.elim) ?aF ?aO ?aB ?aS ?aL ?_; (case aP => exact rfl); (case aB => exact ZB); (case aF => exact (fun _ _ => trivial)); (case aO => exact (ZR HO_8)); (case aS => exact (below_size ZB)); (case aL => have := LMc53.out; omega); intro v1473 w54 ho hb hg hat; rw [← Ny1472.out] at ho; have n0_ := Aside0.mk (hb); have n1_ := Aside0.mk (ho); clear HB; clear HO_8; have HB := n0_; have HO1474 := n1_; clear n0_ n1_; clear ho hb hg hat))
             go_roundg k2
             case measure => have := HK1.out; have := HK2.out; omega
             case rel => exact ⟨(y1472), (wrap64 (x9_1 + 1)), (by first | rfl | (simp; done) | (simp [*]; done)), H', ⟨by have := HK1.out; have := HK2.out; omega⟩, ⟨ZR HO1474⟩, ⟨ZB⟩⟩
            ·rw [if_neg c53] at H
             exact absurd H (by simp)
        ·rw [if_neg c44] at H
         have c44b0 : (a1.toList == ([112, 111, 105, 115, 115, 111, 110] : List UInt8)) = false := beq_eq_false_iff_ne.mpr c44
         have c44b1 : (a1.toList != ([112, 111, 105, 115, 115, 111, 110] : List UInt8)) = true := bne_iff_ne.mpr c44
         by_cases c55 : x8_1.length < 17592186044416
         ·rw [if_pos c55] at H
          have LMc55 := Aside0.mk c55
          clear c55
          obtain ⟨y1475, hy1475⟩ : ∃ y_ : List Int, y_ = (x8_1 ++ [0]) := ⟨_, rfl⟩
          replace H : (impl_field_named.l0 k1 a0 a1 a2 y1475 (wrap64 (x9_1 + 1))) = some (r1, r2) := by first | (rw [hy1475]; with_reducible exact H) | (have H2_ := (Option.bind_some _ _).symm.trans H; rw [hy1475]; with_reducible exact H2_) | (have H2_ := (Option.bind_some _ _).symm.trans H; with_reducible exact H2_) | with_reducible exact H | (rw [hy1475]; exact H) | exact H
          have Ny1475 := Aside0.mk hy1475
          clear hy1475
          have H' := Aside0.mk H
          clear H
          go_wp2_with (first | ((with_reducible refine gate_builtin (b := .append) (xs := #[.tmp 106, .tmp 108]) rfl ?_); at_builtin; refine Kd.R_append (Kd.int .i64) (w0 := w) w.heap.size rfl (.tmp 106) (.tmp 108) 22 2 (.int .i64 0) 8 rfl Try.underlying22 info2 rfl (by decide) (by omega) u8 x8_1 0 [.int .i64 0] (fun _ => True) (fun _ => False) rfl rfl ?aP (fun _ hk => hk.elim) ?aF ?aO ?aB ?aS ?aL ?_; (case aP => exact rfl); (case aB => exact ZB); (case aF => exact (fun _ _ => trivial)); (case aO => exact (ZR HO_8)); (case aS => exact (below_size ZB)); (case aL => have := LMc55.out; omega); intro v1476 w56 ho hb hg hat; rw [← Ny1475.out] at ho; have n0_ := Aside0.mk (hb); have n1_ := Aside0.mk (ho); clear HB; clear HO_8; have HB := n0_; have HO1477 := n1_; clear n0_ n1_; clear ho hb hg hat))
          go_roundg k1
          case measure => have := HK1.out; omega
          case rel => exact ⟨(y1475), (wrap64 (x9_1 + 1)), (by first | rfl | (simp; done) | (simp [*]; done)), H', ⟨by have := HK1.out; omega⟩, ⟨ZR HO1477⟩, ⟨ZB⟩⟩
         ·rw [if_neg c55] at H
          exact absurd H (by simp)
   ·rw [if_neg c7] at H
    have c7b0 : decide (x9_1 < a2) = false := decide_eq_false c7
    clear c7
    obtain ⟨y1441, hy1441⟩ : ∃ y_ : List ByteArray, y_ = (([(⟨#[117, 110, 105, 102, 111, 114, 109]⟩ : ByteArray), (⟨#[108, 97, 103, 117, 101, 114, 114, 101]⟩ : ByteArray), (⟨#[104, 101, 114, 109, 105, 116, 101]⟩ : ByteArray), (⟨#[99, 97, 116, 97, 108, 97, 110]⟩ : ByteArray), (⟨#[112, 111, 105, 115, 115, 111, 110]⟩ : ByteArray)] : List ByteArray)) := ⟨_, rfl⟩
    replace H : ((slices_Contains_string_string.f k1 y1441 a1).bind fun t1444 => (some (x8_1, t1444))) = some (r1, r2) := by first | (rw [hy1441]; with_reducible exact H) | (have H2_ := (Option.bind_some _ _).symm.trans H; rw [hy1441]; with_reducible exact H2_) | (have H2_ := (Option.bind_some _ _).symm.trans H; with_reducible exact H2_) | with_reducible exact H | (rw [hy1441]; exact H) | exact H
    have Ny1441 := Aside0.mk hy1441
    clear hy1441
    replace H := Option.bind_eq_some_iff.mp H
    obtain ⟨t1444, A570, H⟩ := H
    replace H : (some (x8_1, t1444)) = some (r1, r2) := H
    have A57 := Aside0.mk A570
    clear A570
    simp only [Option.some.injEq, Prod.mk.injEq] at H
    obtain ⟨rfl, rfl⟩ := H
    go_wp2_with (first | ((with_reducible refine gate_dst (N := 111) rfl ?_); refine Kd.R_lit Kd.string _ 9 ?hg (N := 111) ?hd (xs := ([(⟨#[117, 110, 105, 102, 111, 114, 109]⟩ : ByteArray), (⟨#[108, 97, 103, 117, 101, 114, 114, 101]⟩ : ByteArray), (⟨#[104, 101, 114, 109, 105, 116, 101]⟩ : ByteArray), (⟨#[99, 97, 116, 97, 108, 97, 110]⟩ : ByteArray), (⟨#[112, 111, 105, 115, 115, 111, 110]⟩ : ByteArray)] : List ByteArray)) (inner := [.string (⟨#[117, 110, 105, 102, 111, 114, 109]⟩ : ByteArray), .string (⟨#[108, 97, 103, 117, 101, 114, 114, 101]⟩ : ByteArray), .string (⟨#[104, 101, 114, 109, 105, 116, 101]⟩ : ByteArray), .string (⟨#[99, 97, 116, 97, 108, 97, 110]⟩ : ByteArray), .string (⟨#[112, 111, 105, 115, 115, 111, 110]⟩ : ByteArray)]) (ok := fun _ => True) (okp := fun _ => True) ?hr ?hp (fun _ hk => hk) trivial (Below.refl _ _) (Nat.le_refl _) (by simp) ?_; (case hd => rfl); (case hg => rfl); (case hr => first | (go_simp; done) | (go_simp; rfl)); (case hp => exact (Reps.one (show Kd.M Kd.string _ _ _ (⟨#[117, 110, 105, 102, 111, 114, 109]⟩ : ByteArray) [.string (⟨#[117, 110, 105, 102, 111, 114, 109]⟩ : ByteArray)] from rfl) (Reps.one (show Kd.M Kd.string _ _ _ (⟨#[108, 97, 103, 117, 101, 114, 114, 101]⟩ : ByteArray) [.string (⟨#[108, 97, 103, 117, 101, 114, 114, 101]⟩ : ByteArray)] from rfl) (Reps.one (show Kd.M Kd.string _ _ _ (⟨#[104, 101, 114, 109, 105, 116, 101]⟩ : ByteArray) [.string (⟨#[104, 101, 114, 109, 105, 116, 101]⟩ : ByteArray)] from rfl) (Reps.one (show Kd.M Kd.string _ _ _ (⟨#[99, 97, 116, 97, 108, 97, 110]⟩ : ByteArray) [.string (⟨#[99, 97, 116, 97, 108, 97, 110]⟩ : ByteArray)] from rfl) (Reps.one (show Kd.M Kd.string _ _ _ (⟨#[112, 111, 105, 115, 115, 111, 110]⟩ : ByteArray) [.string (⟨#[112, 111, 105, 115, 115, 111, 110]⟩ : ByteArray)] from rfl) (Reps.none _ _))))))); intro v1442 w58 ho59 hb hg_ hnew_; clear hg_ hnew_; (first | rw [← Ny1441.out] at ho59 | (simp only [Int.reduceToNat] at ho59; rw [← Ny1441.out] at ho59)); have n0_ := Aside0.mk (Kd.R_below (ZR HO_8) hb); have n1_ := Aside0.mk (Kd.R_lower ho59 (below_size ZB)); have n2_ := Aside0.mk (below_step ZB hb); clear HO_8; clear HB; have HO_8 := n0_; have HO1443 := n1_; have HB := n2_; clear n0_ n1_ n2_; clear hb ho59; obtain ⟨Ao60, co60, eo60⟩ := Kd.R_slice HO1443.out; subst eo60) | ((with_reducible refine gate_callee (f := 135) rfl ?_); refine goesL_ (some 113) rfl rfl Try.func135 (by kernel_rfl) rfl #[.slice Ao60 y1441.length co60, .string a1] rfl ZA ?_; (with_reducible refine (slices_Contains_string_string.calls k1 _ _ y1441 a1 t1444 _ ?side1 ?side2 A57.out).mono ?_); (case side1 => repeat (first | exact (Kd.R_reads' HO1443.out).2.2 | (with_reducible refine Kd.C_alloc ?_ _) | (with_reducible refine Kd.C_drewN ?_ _) | (with_reducible refine Kd.C_drew ?_))); (case side2 => exact (Kd.R_reads' HO1443.out).2.1); rintro e w' ⟨rfl, ⟨nd, rfl⟩⟩; refine ⟨_, rfl, ?_⟩))
    go_ret2
    exact ⟨_, by first | rfl | (simp [errW_none, errW_some] <;> rfl) | (simp [*, errW_none, errW_some] <;> rfl), by refine ZQ ?_; exact HO_8.out, ZB⟩

end Go.Proofs.Ytaclapojgdekpaa.X
