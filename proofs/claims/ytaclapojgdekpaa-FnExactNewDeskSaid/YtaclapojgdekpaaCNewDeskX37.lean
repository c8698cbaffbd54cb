/- Contracts of functions that the law reaches, printed by a program of this session; Lean checks them. -/
import Derived.Test.YtaclapojgdekpaaCNewDeskX0
import Derived.Test.YtaclapojgdekpaaCNewDeskX7
import Derived.Test.YtaclapojgdekpaaCNewDeskXZ
namespace Go.Proofs.Ytaclapojgdekpaa.X
open Go.RowKit Go.Proofs.YtaclapojgdekpaaW.PrintWords Go.Proofs.YtaclapojgdekpaaW.PrintLast Go.Proofs.YtaclapojgdekpaaW.PrintMore
attribute [local go_sem] max2_int min2_int max_two min_two max_three min_three max_four min_four   -- for this text's walks alone
set_option linter.unusedVariables false
set_option linter.unusedSimpArgs false

/-! ### spec_l02Known: function 130 -/
def spec_l02Known.f (a0 : ByteArray) : Option (Bool) := if a0.toList = ([117, 110, 105, 102, 111, 114, 109] : List UInt8) then (some true) else (if a0.toList = ([108, 97, 103, 117, 101, 114, 114, 101] : List UInt8) then (some true) else (if a0.toList = ([104, 101, 114, 109, 105, 116, 101] : List UInt8) then (some true) else (if a0.toList = ([99, 97, 116, 97, 108, 97, 110] : List UInt8) then (some true) else (some (a0.toList == ([112, 111, 105, 115, 115, 111, 110] : List UInt8))))))
set_option maxHeartbeats 8000000 in
set_option maxRecDepth 100000 in
theorem spec_l02Known.calls (a0 : ByteArray) (r : Bool) (w : World) (h : spec_l02Known.f a0 = some r) :
  Calls Try.prog 130 #[.string a0] w fun e w' => e = .returned (.bool r) ∧ Drawn0 w w' := by
 have H : (if a0.toList = ([117, 110, 105, 102, 111, 114, 109] : List UInt8) then (some true) else (if a0.toList = ([108, 97, 103, 117, 101, 114, 114, 101] : List UInt8) then (some true) else (if a0.toList = ([104, 101, 114, 109, 105, 116, 101] : List UInt8) then (some true) else (if a0.toList = ([99, 97, 116, 97, 108, 97, 110] : List UInt8) then (some true) else (some (a0.toList == ([112, 111, 105, 115, 115, 111, 110] : List UInt8))))))) = some r := h
 clear h
 by_cases c2 : a0.toList = ([117, 110, 105, 102, 111, 114, 109] : List UInt8)
 ·rw [if_pos c2] at H
  have c2b0 : (a0.toList == ([117, 110, 105, 102, 111, 114, 109] : List UInt8)) = true := beq_iff_eq.mpr c2
  have c2b1 : (a0.toList != ([117, 110, 105, 102, 111, 114, 109] : List UInt8)) = false := bne_eq_false_iff_eq.mpr c2
  clear c2
  obtain rfl := Option.some.inj H
  go_enter Try.func130, Try.ntmps130
  go_wp2
  go_ret
  exact ⟨by first | rfl | (simp; done) | (simp [*]; done), by repeat (first | exact Drawn0.refl _ | apply Drawn0.step)⟩
 ·rw [if_neg c2] at H
  have c2b0 : (a0.toList == ([117, 110, 105, 102, 111, 114, 109] : List UInt8)) = false := beq_eq_false_iff_ne.mpr c2
  have c2b1 : (a0.toList != ([117, 110, 105, 102, 111, 114, 109] : List UInt8)) = true := bne_iff_ne.mpr c2
  by_cases c3 : a0.toList = ([108, 97, 103, 117, 101, 114, 114, 101] : List UInt8)
  ·rw [if_pos c3] at H
   have c3b0 : (a0.toList == ([108, 97, 103, 117, 101, 114, 114, 101] : List UInt8)) = true := beq_iff_eq.mpr c3
   have c3b1 : (a0.toList != ([108, 97, 103, 117, 101, 114, 114, 101] : List UInt8)) = false := bne_eq_false_iff_eq.mpr c3
   clear c3
   obtain rfl := Option.some.inj H
   go_enter Try.func130, Try.ntmps130
   go_wp2
   go_ret
   exact ⟨by first | rfl | (simp; done) | (simp [*]; done), by repeat (first | exact Drawn0.refl _ | apply Drawn0.step)⟩
  ·rw [if_neg c3] at H
   have c3b0 : (a0.toList == ([108, 97, 103, 117, 101, 114, 114, 101] : List UInt8)) = false := beq_eq_false_iff_ne.mpr c3
   have c3b1 : (a0.toList != ([108, 97, 103, 117, 101, 114, 114, 101] : List UInt8)) = true := bne_iff_ne.mpr c3
   by_cases c4 : a0.toList = ([104, 101, 114, 109, 105, 116, 101] : List UInt8)
   ·rw [if_pos c4] at H
    have c4b0 : (a0.toList == ([104, 101, 114, 109, 105, 116, 101] : List UInt8)) = true := beq_iff_eq.mpr c4
    have c4b1 : (a0.toList != ([104, 101, 114, 109, 105, 116, 101] : List UInt8)) = false := bne_eq_false_iff_eq.mpr c4
    clear c4
    obtain rfl := Option.some.inj H
    go_enter Try.func130, Try.ntmps130
    go_wp2
    go_ret
    exact ⟨by first | rfl | (simp; done) | (simp [*]; done), by repeat (first | exact Drawn0.refl _ | apply Drawn0.step)⟩
   ·rw [if_neg c4] at H
    have c4b0 : (a0.toList == ([104, 101, 114, 109, 105, 116, 101] : List UInt8)) = false := beq_eq_false_iff_ne.mpr c4
    have c4b1 : (a0.toList != ([104, 101, 114, 109, 105, 116, 101] : List UInt8)) = true := bne_iff_ne.mpr c4
    by_cases c5 : a0.toList = ([99, 97, 116, 97, 108, 97, 110] : List UInt8)
    ·rw [if_pos c5] at H
     have c5b0 : (a0.toList == ([99, 97, 116, 97, 108, 97, 110] : List UInt8)) = true := beq_iff_eq.mpr c5
     have c5b1 : (a0.toList != ([99, 97, 116, 97, 108, 97, 110] : List UInt8)) = false := bne_eq_false_iff_eq.mpr c5
     clear c5
     obtain rfl := Option.some.inj H
     go_enter Try.func130, Try.ntmps130
     go_wp2
     go_ret
     exact ⟨by first | rfl | (simp; done) | (simp [*]; done), by repeat (first | exact Drawn0.refl _ | apply Drawn0.step)⟩
    ·rw [if_neg c5] at H
     have c5b0 : (a0.toList == ([99, 97, 116, 97, 108, 97, 110] : List UInt8)) = false := beq_eq_false_iff_ne.mpr c5
     have c5b1 : (a0.toList != ([99, 97, 116, 97, 108, 97, 110] : List UInt8)) = true := bne_iff_ne.mpr c5
     obtain rfl := Option.some.inj H
     go_enter Try.func130, Try.ntmps130
     go_wp2
     go_ret
     exact ⟨by first | rfl | (simp; done) | (simp [*]; done), by repeat (first | exact Drawn0.refl _ | apply Drawn0.step)⟩

/-! ### spec_l02Sum: function 136 -/
def spec_l02Sum.l0 : Nat → Int → Int → List Int → List Int → Int → Int → Option (Int)
 | 0, _, _, _, _, _, _ => none
 | k + 1, x0, x1, x2, x3, x9, x10 => if x10 < x1 then (if 0 ≤ x10 then (if x10 < (x2.length : Int) then (if x10 < (x3.length : Int) then (if x0 = 0 then (none) else (spec_l02Sum.l0 k x0 x1 x2 x3 (Int.tmod (wrap64 (x9 + (wrap64 ((rd x2 x10) * (rd x3 x10))))) x0) (wrap64 (x10 + 1)))) else (none)) else (none)) else (none)) else (some x9)
def spec_l02Sum.f (k : Nat) (a0 : Int) (a1 : Int) (l2 : List Int) (l3 : List Int) : Option (Int) := if a1 = 0 then (if a0 = 0 then (none) else (some ((1 : Int) % a0))) else (spec_l02Sum.l0 k a0 a1 l2 l3 0 0)
theorem spec_l02Sum.mono_l : ∀ k, (∀ y0 y1 y2 y3 y4 y5, LeO (spec_l02Sum.l0 k y0 y1 y2 y3 y4 y5) (spec_l02Sum.l0 (k + 1) y0 y1 y2 y3 y4 y5))
 | 0 => fun _ _ _ _ _ _ r h => by simp [spec_l02Sum.l0] at h
 | k + 1 => by
  have ih0 := spec_l02Sum.mono_l k
  ·intro y0 y1 y2 y3 y4 y5
   unfold spec_l02Sum.l0
   repeat' first
   | (with_reducible exact ih0 _ _ _ _ _ _)
   | (with_reducible exact LeO.refl _)
   | (with_reducible exact LeO.none _)
   | (with_reducible refine LeO.ite ?_ ?_)
   | (with_reducible refine LeO.bind ?_ (fun _ => ?_))
   | exact ih0 _ _ _ _ _ _
   | exact LeO.none _
   | refine LeO.ite ?_ ?_
   | refine LeO.bind ?_ (fun _ => ?_)
theorem spec_l02Sum.mono : ∀ a0 a1 a2 a3 k, LeO (spec_l02Sum.f k a0 a1 a2 a3) (spec_l02Sum.f (k + 1) a0 a1 a2 a3) := by
 intro a0 a1 a2 a3 k
 have ih0 := spec_l02Sum.mono_l k
 unfold spec_l02Sum.f
 repeat' first
   | (with_reducible exact ih0 _ _ _ _ _ _)
   | (with_reducible exact LeO.refl _)
   | (with_reducible exact LeO.none _)
   | (with_reducible refine LeO.ite ?_ ?_)
   | (with_reducible refine LeO.bind ?_ (fun _ => ?_))
   | exact ih0 _ _ _ _ _ _
   | exact LeO.none _
   | refine LeO.ite ?_ ?_
   | refine LeO.bind ?_ (fun _ => ?_)
set_option maxHeartbeats 8000000 in
set_option maxRecDepth 100000 in
theorem spec_l02Sum.calls (k : Nat) (a0 : Int) (a1 : Int) (A2 : Option Addr) (c2 : Nat) (l2 : List Int) (A3 : Option Addr) (c3 : Nat) (l3 : List Int) (r : Int) (w : World) (hr2 : Kd.C (Kd.int .i64) w A2 l2.length l2) (hc2 : l2.length ≤ c2) (hr3 : Kd.C (Kd.int .i64) w A3 l3.length l3) (hc3 : l3.length ≤ c3) (h : spec_l02Sum.f k a0 a1 l2 l3 = some r) :
  Calls Try.prog 136 #[.int .i64 a0, .int .i64 a1, .slice A2 l2.length c2, .slice A3 l3.length c3] w fun e w' => e = .returned (.int .i64 r) ∧ Drawn0 w w' := by
 have HR2 := Aside0.mk hr2
 have HC2 := Aside0.mk hc2
 clear hr2 hc2
 have HR3 := Aside0.mk hr3
 have HC3 := Aside0.mk hc3
 clear hr3 hc3
 have H : (if a1 = 0 then (if a0 = 0 then (none) else (some ((1 : Int) % a0))) else (spec_l02Sum.l0 k a0 a1 l2 l3 0 0)) = some r := h
 clear h
 by_cases c5 : a1 = 0
 ·rw [if_pos c5] at H
  have c5b0 : (a1 == 0) = true := beq_iff_eq.mpr c5
  have c5b1 : (a1 != 0) = false := bne_eq_false_iff_eq.mpr c5
  clear c5
  by_cases c6 : a0 = 0
  ·rw [if_pos c6] at H
   exact absurd H (by simp)
  ·rw [if_neg c6] at H
   have c6b0 : (a0 == 0) = false := beq_eq_false_iff_ne.mpr c6
   have c6b1 : (a0 != 0) = true := bne_iff_ne.mpr c6
   obtain rfl := Option.some.inj H
   go_enter Try.func136, Try.ntmps136
   go_wp2
   repeat (go_quiet (fail); try go_wp2)
   go_ret
   exact ⟨by first | rfl | (simp; done) | (simp [*]; done), by repeat (first | exact Drawn0.refl _ | apply Drawn0.step)⟩
 ·rw [if_neg c5] at H
  have c5b0 : (a1 == 0) = false := beq_eq_false_iff_ne.mpr c5
  have c5b1 : (a1 != 0) = true := bne_iff_ne.mpr c5
  have H' := Aside0.mk H
  clear H
  go_enter Try.func136, Try.ntmps136
  go_wp2
  repeat (go_quiet (fail); try go_wp2)
  go_loopg [9, 10] k (fun kq v9 v10 w' => ∃ (x9_1 : Int) (x10_1 : Int), v9 = .int .i64 x9_1 ∧ v10 = .int .i64 x10_1 ∧ Aside0 (spec_l02Sum.l0 kq a0 a1 l2 l3 x9_1 x10_1 = some r) ∧ Aside0 (kq ≤ k) ∧ Drawn0 w w')
  case atStart => exact ⟨(0), (0), (by first | rfl | (simp; done) | (simp [*]; done)), (by first | rfl | (simp; done) | (simp [*]; done)), H', ⟨Nat.le_refl _⟩, by repeat (first | exact Drawn0.refl _ | apply Drawn0.step)⟩
  case round =>
   clear H'
   try clear c1
   try clear c2
   try clear p2
   try clear c3
   try clear c5
   try clear c5b0
   try clear c5b1
   try clear c6
   try clear c6b0
   try clear c6b1
   obtain ⟨x9_1, x10_1, rfl, rfl, HA, HK1, ⟨m1, rfl⟩⟩ := hrel
   cases gk with
   | zero => exact absurd HA.out (by simp [spec_l02Sum.l0])
   | succ k1 =>
    have H := HA.out
    clear HA
    simp only [spec_l02Sum.l0] at H
    by_cases c7 : x10_1 < a1
    ·rw [if_pos c7] at H
     have c7b0 : decide (x10_1 < a1) = true := decide_eq_true c7
     clear c7
     by_cases c8 : 0 ≤ x10_1
     ·rw [if_pos c8] at H
      have c8b0 : decide (0 ≤ x10_1) = true := decide_eq_true c8
      clear c8
      by_cases c9 : x10_1 < (l2.length : Int)
      ·rw [if_pos c9] at H
       have c9b0 : decide (x10_1 < (l2.length : Int)) = true := decide_eq_true c9
       clear c9
       by_cases c10 : x10_1 < (l3.length : Int)
       ·rw [if_pos c10] at H
        have c10b0 : decide (x10_1 < (l3.length : Int)) = true := decide_eq_true c10
        clear c10
        by_cases c11 : a0 = 0
        ·rw [if_pos c11] at H
         exact absurd H (by simp)
        ·rw [if_neg c11] at H
         have c11b0 : (a0 == 0) = false := beq_eq_false_iff_ne.mpr c11
         have c11b1 : (a0 != 0) = true := bne_iff_ne.mpr c11
         have H' := Aside0.mk H
         clear H
         have p1291 : 0 ≤ (x10_1 : Int) := of_decide_eq_true (by first | (with_reducible assumption) | assumption)
         have q1291 : x10_1 < (l2.length : Int) := of_decide_eq_true (by first | (with_reducible assumption) | assumption)
         obtain ⟨ad1291, e1291, hx1291_0⟩ := Kd.at_int HR2.out x10_1 p1291 q1291
         cases e1291
         replace p1291 := eq_true p1291
         replace q1291 := eq_true q1291
         have p1292 : 0 ≤ (x10_1 : Int) := of_decide_eq_true (by first | (with_reducible assumption) | assumption)
         have q1292 : x10_1 < (l3.length : Int) := of_decide_eq_true (by first | (with_reducible assumption) | assumption)
         obtain ⟨ad1292, e1292, hx1292_0⟩ := Kd.at_int HR3.out x10_1 p1292 q1292
         cases e1292
         replace p1292 := eq_true p1292
         replace q1292 := eq_true q1292
         go_wp2
         repeat (go_quiet (fail); try go_wp2)
         go_roundg k1
         case measure => have := HK1.out; omega
         case rel => exact ⟨(Int.tmod (wrap64 (x9_1 + (wrap64 ((rd l2 x10_1) * (rd l3 x10_1))))) a0), (wrap64 (x10_1 + 1)), (by first | rfl | (simp; done) | (simp [*]; done)), (by first | rfl | (simp; done) | (simp [*]; done)), H', ⟨by have := HK1.out; omega⟩, by repeat (first | exact Drawn0.refl _ | apply Drawn0.step)⟩
       ·rw [if_neg c10] at H
        exact absurd H (by simp)
      ·rw [if_neg c9] at H
       exact absurd H (by simp)
     ·rw [if_neg c8] at H
      exact absurd H (by simp)
    ·rw [if_neg c7] at H
     have c7b0 : decide (x10_1 < a1) = false := decide_eq_false c7
     clear c7
     obtain rfl := Option.some.inj H
     go_wp2
     repeat (go_quiet (fail); try go_wp2)
     go_ret
     exact ⟨by first | rfl | (simp; done) | (simp [*]; done), by repeat (first | exact Drawn0.refl _ | apply Drawn0.step)⟩

end Go.Proofs.Ytaclapojgdekpaa.X
