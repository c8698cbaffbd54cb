/- Contracts of functions that the law reaches, printed by a program of this session; Lean checks them. -/
import Derived.Test.YtaclapojgdekpaaCValueByX0
import Derived.Test.YtaclapojgdekpaaCValueByX1
import Derived.Test.YtaclapojgdekpaaCValueByX19
import Derived.Test.YtaclapojgdekpaaCValueByX2
import Derived.Test.YtaclapojgdekpaaCValueByX21
import Derived.Test.YtaclapojgdekpaaCValueByX5
import Derived.Test.YtaclapojgdekpaaCValueByXZ
namespace Go.Proofs.Ytaclapojgdekpaa.X
open Go.RowKit Go.Proofs.YtaclapojgdekpaaW.PrintWords Go.Proofs.YtaclapojgdekpaaW.PrintLast Go.Proofs.YtaclapojgdekpaaW.PrintMore
attribute [local go_sem] max2_int min2_int max_two min_two max_three min_three max_four min_four   -- for this text's walks alone
set_option linter.unusedVariables false
set_option linter.unusedSimpArgs false

/-! ### spec_l02Numbers: function 112 -/
def spec_l02Numbers.l0 : Nat → Int → List Int → Int → Option (Bool)
 | 0, _, _, _ => none
 | k + 1, x0, x1, x5 => if x5 < (x1.length : Int) then (if 0 ≤ x5 then ((spec_l01In.f (rd x1 x5) 0 (wrap64 (x0 - 1))).bind fun t978 => (if t978 = true then (spec_l02Numbers.l0 k x0 x1 (wrap64 (x5 + 1))) else (some false))) else (none)) else (some true)
def spec_l02Numbers.f (k : Nat) (a0 : Int) (l1 : List Int) : Option (Bool) := spec_l02Numbers.l0 k a0 l1 0
theorem spec_l02Numbers.mono_l : ∀ k, (∀ y0 y1 y2, LeO (spec_l02Numbers.l0 k y0 y1 y2) (spec_l02Numbers.l0 (k + 1) y0 y1 y2))
 | 0 => fun _ _ _ r h => by simp [spec_l02Numbers.l0] at h
 | k + 1 => by
  have ih0 := spec_l02Numbers.mono_l k
  ·intro y0 y1 y2
   unfold spec_l02Numbers.l0
   repeat' first
   | (with_reducible exact ih0 _ _ _)
   | (with_reducible exact LeO.refl _)
   | (with_reducible exact LeO.none _)
   | (with_reducible refine LeO.ite ?_ ?_)
   | (with_reducible refine LeO.bind ?_ (fun _ => ?_))
   | exact ih0 _ _ _
   | exact LeO.none _
   | refine LeO.ite ?_ ?_
   | refine LeO.bind ?_ (fun _ => ?_)
theorem spec_l02Numbers.mono : ∀ a0 a1 k, LeO (spec_l02Numbers.f k a0 a1) (spec_l02Numbers.f (k + 1) a0 a1) := by
 intro a0 a1 k
 have ih0 := spec_l02Numbers.mono_l k
 unfold spec_l02Numbers.f
 repeat' first
   | (with_reducible exact ih0 _ _ _)
   | (with_reducible exact LeO.refl _)
   | (with_reducible exact LeO.none _)
   | (with_reducible refine LeO.ite ?_ ?_)
   | (with_reducible refine LeO.bind ?_ (fun _ => ?_))
   | exact ih0 _ _ _
   | exact LeO.none _
   | refine LeO.ite ?_ ?_
   | refine LeO.bind ?_ (fun _ => ?_)
set_option maxHeartbeats 8000000 in
set_option maxRecDepth 100000 in
theorem spec_l02Numbers.calls (k : Nat) (a0 : Int) (A1 : Option Addr) (c1 : Nat) (l1 : List Int) (r : Bool) (w : World) (hr1 : Kd.C (Kd.int .i64) w A1 l1.length l1) (hc1 : l1.length ≤ c1) (h : spec_l02Numbers.f k a0 l1 = some r) :
  Calls Try.prog 112 #[.int .i64 a0, .slice A1 l1.length c1] w fun e w' => e = .returned (.bool r) ∧ Drawn0 w w' := by
 have HR1 := Aside0.mk hr1
 have HC1 := Aside0.mk hc1
 clear hr1 hc1
 have H : (spec_l02Numbers.l0 k a0 l1 0) = some r := h
 clear h
 have H' := Aside0.mk H
 clear H
 go_enter Try.func112, Try.ntmps112
 go_wp2
 go_loopg [5] k (fun kq v5 w' => ∃ (x5_1 : Int), v5 = .int .i64 x5_1 ∧ Aside0 (spec_l02Numbers.l0 kq a0 l1 x5_1 = some r) ∧ Aside0 (kq ≤ k) ∧ Drawn0 w w')
 case atStart => exact ⟨(0), (by first | rfl | (simp; done) | (simp [*]; done)), H', ⟨Nat.le_refl _⟩, by repeat (first | exact Drawn0.refl _ | apply Drawn0.step)⟩
 case round =>
  clear H'
  try clear c1
  try clear p2
  obtain ⟨x5_1, rfl, HA, HK1, ⟨m1, rfl⟩⟩ := hrel
  cases gk with
  | zero => exact absurd HA.out (by simp [spec_l02Numbers.l0])
  | succ k1 =>
   have H := HA.out
   clear HA
   simp only [spec_l02Numbers.l0] at H
   by_cases c3 : x5_1 < (l1.length : Int)
   ·rw [if_pos c3] at H
    have c3b0 : decide (x5_1 < (l1.length : Int)) = true := decide_eq_true c3
    clear c3
    by_cases c4 : 0 ≤ x5_1
    ·rw [if_pos c4] at H
     have c4b0 : decide (0 ≤ x5_1) = true := decide_eq_true c4
     clear c4
     replace H := Option.bind_eq_some_iff.mp H
     obtain ⟨t978, A50, H⟩ := H
     replace H : (if t978 = true then (spec_l02Numbers.l0 k1 a0 l1 (wrap64 (x5_1 + 1))) else (some false)) = some r := H
     have A5 := Aside0.mk A50
     clear A50
     by_cases c6 : t978 = true
     ·subst c6
      have H1 : (spec_l02Numbers.l0 k1 a0 l1 (wrap64 (x5_1 + 1))) = some r := by rw [if_pos rfl] at H; exact H
      clear H
      have H := H1
      clear H1
      have H' := Aside0.mk H
      clear H
      have p977 : 0 ≤ (x5_1 : Int) := of_decide_eq_true (by first | (with_reducible assumption) | assumption)
      have q977 : x5_1 < (l1.length : Int) := of_decide_eq_true (by first | (with_reducible assumption) | assumption)
      obtain ⟨ad977, e977, hx977_0⟩ := Kd.at_int HR1.out x5_1 p977 q977
      cases e977
      replace p977 := eq_true p977
      replace q977 := eq_true q977
      go_wp2_with (first | ((with_reducible refine gate_callee (f := 83) rfl ?_); refine goesL_ (some 18) rfl rfl Try.func83 (by kernel_rfl) rfl #[.int .i64 (rd l1 x5_1), .int .i64 0, .int .i64 (wrap64 (a0 - 1))] rfl ZA ?_; (with_reducible refine (spec_l01In.calls (rd l1 x5_1) 0 (wrap64 (a0 - 1)) true _ A5.out).mono ?_); rintro e w' ⟨rfl, ⟨nd, rfl⟩⟩; refine ⟨_, rfl, ?_⟩))
      go_roundg k1
      case measure => have := HK1.out; omega
      case rel => exact ⟨(wrap64 (x5_1 + 1)), (by first | rfl | (simp; done) | (simp [*]; done)), H', ⟨by have := HK1.out; omega⟩, by repeat (first | exact Drawn0.refl _ | apply Drawn0.step)⟩
     ·replace c6 := Bool.eq_false_iff.mpr c6
      subst c6
      have H1 : (some false) = some r := by rw [if_neg (show ¬ (false = true) by decide)] at H; exact H
      clear H
      have H := H1
      clear H1
      obtain rfl := Option.some.inj H
      have p977 : 0 ≤ (x5_1 : Int) := of_decide_eq_true (by first | (with_reducible assumption) | assumption)
      have q977 : x5_1 < (l1.length : Int) := of_decide_eq_true (by first | (with_reducible assumption) | assumption)
      obtain ⟨ad977, e977, hx977_0⟩ := Kd.at_int HR1.out x5_1 p977 q977
      cases e977
      replace p977 := eq_true p977
      replace q977 := eq_true q977
      go_wp2_with (first | ((with_reducible refine gate_callee (f := 83) rfl ?_); refine goesL_ (some 18) rfl rfl Try.func83 (by kernel_rfl) rfl #[.int .i64 (rd l1 x5_1), .int .i64 0, .int .i64 (wrap64 (a0 - 1))] rfl ZA ?_; (with_reducible refine (spec_l01In.calls (rd l1 x5_1) 0 (wrap64 (a0 - 1)) false _ A5.out).mono ?_); rintro e w' ⟨rfl, ⟨nd, rfl⟩⟩; refine ⟨_, rfl, ?_⟩))
      go_ret
      exact ⟨by first | rfl | (simp; done) | (simp [*]; done), by repeat (first | exact Drawn0.refl _ | apply Drawn0.step)⟩
    ·rw [if_neg c4] at H
     exact absurd H (by simp)
   ·rw [if_neg c3] at H
    have c3b0 : decide (x5_1 < (l1.length : Int)) = false := decide_eq_false c3
    clear c3
    obtain rfl := Option.some.inj H
    go_wp2
    go_ret
    exact ⟨by first | rfl | (simp; done) | (simp [*]; done), by repeat (first | exact Drawn0.refl _ | apply Drawn0.step)⟩

/-! ### spec_l10List: function 79 -/
def spec_l10List.f (k : Nat) (a0_0 : Int) (l0_1 : List Int) (l0_2 : List Int) (l1 : List Int) (a2 : Int) : Option (Int) := (spec_l03Is.f k a0_0 l0_1 l0_2).bind fun t980 => (if t980 = true then (if (l1.length : Int) > (wrap64 ((l0_1.length : Int) + a2)) then (some 2) else ((spec_l02Numbers.f k a0_0 l1).bind fun t981 => (if t981 = true then (some 0) else (some 2)))) else (some 1))
theorem spec_l10List.mono : ∀ a0 a1 a2 a3 a4 k, LeO (spec_l10List.f k a0 a1 a2 a3 a4) (spec_l10List.f (k + 1) a0 a1 a2 a3 a4) := by
 intro a0 a1 a2 a3 a4 k
 unfold spec_l10List.f
 repeat' first
   | (with_reducible exact spec_l02Numbers.mono _ _ _)
   | (with_reducible exact spec_l03Is.mono _ _ _ _)
   | (with_reducible exact LeO.refl _)
   | (with_reducible exact LeO.none _)
   | (with_reducible refine LeO.ite ?_ ?_)
   | (with_reducible refine LeO.bind ?_ (fun _ => ?_))
   | exact spec_l02Numbers.mono _ _ _
   | exact spec_l03Is.mono _ _ _ _
   | exact LeO.none _
   | refine LeO.ite ?_ ?_
   | refine LeO.bind ?_ (fun _ => ?_)
set_option maxHeartbeats 8000000 in
set_option maxRecDepth 100000 in
theorem spec_l10List.calls (k : Nat) (a0_0 : Int) (A0_1 : Option Addr) (c0_1 : Nat) (l0_1 : List Int) (A0_2 : Option Addr) (c0_2 : Nat) (l0_2 : List Int) (A1 : Option Addr) (c1 : Nat) (l1 : List Int) (a2 : Int) (r : Int) (w : World) (hr0_1 : Kd.C (Kd.int .i64) w A0_1 l0_1.length l0_1) (hc0_1 : l0_1.length ≤ c0_1) (hr0_2 : Kd.C (Kd.int .i64) w A0_2 l0_2.length l0_2) (hc0_2 : l0_2.length ≤ c0_2) (hr1 : Kd.C (Kd.int .i64) w A1 l1.length l1) (hc1 : l1.length ≤ c1) (h : spec_l10List.f k a0_0 l0_1 l0_2 l1 a2 = some r) :
  Calls Try.prog 79 #[.agg #[.int .i64 a0_0, .slice A0_1 l0_1.length c0_1, .slice A0_2 l0_2.length c0_2], .slice A1 l1.length c1, .int .i64 a2] w fun e w' => e = .returned (.int .i64 r) ∧ Below w.heap.size w w' := by
 have hu29 := Try.underlying29
 have HR0_1 := Aside0.mk hr0_1
 have HC0_1 := Aside0.mk hc0_1
 clear hr0_1 hc0_1
 have HR0_2 := Aside0.mk hr0_2
 have HC0_2 := Aside0.mk hc0_2
 clear hr0_2 hc0_2
 have HR1 := Aside0.mk hr1
 have HC1 := Aside0.mk hc1
 clear hr1 hc1
 have HB := Aside0.mk (Below.refl w.heap.size w)
 have H : ((spec_l03Is.f k a0_0 l0_1 l0_2).bind fun t980 => (if t980 = true then (if (l1.length : Int) > (wrap64 ((l0_1.length : Int) + a2)) then (some 2) else ((spec_l02Numbers.f k a0_0 l1).bind fun t981 => (if t981 = true then (some 0) else (some 2)))) else (some 1))) = some r := h
 clear h
 replace H := Option.bind_eq_some_iff.mp H
 obtain ⟨t980, A40, H⟩ := H
 replace H : (if t980 = true then (if (l1.length : Int) > (wrap64 ((l0_1.length : Int) + a2)) then (some 2) else ((spec_l02Numbers.f k a0_0 l1).bind fun t981 => (if t981 = true then (some 0) else (some 2)))) else (some 1)) = some r := H
 have A4 := Aside0.mk A40
 clear A40
 by_cases c5 : t980 = true
 ·subst c5
  have H1 : (if (l1.length : Int) > (wrap64 ((l0_1.length : Int) + a2)) then (some 2) else ((spec_l02Numbers.f k a0_0 l1).bind fun t981 => (if t981 = true then (some 0) else (some 2)))) = some r := by rw [if_pos rfl] at H; exact H
  clear H
  have H := H1
  clear H1
  by_cases c6 : (l1.length : Int) > (wrap64 ((l0_1.length : Int) + a2))
  ·rw [if_pos c6] at H
   have c6b0 : decide ((wrap64 ((l0_1.length : Int) + a2)) < (l1.length : Int)) = true := decide_eq_true c6
   clear c6
   obtain rfl := Option.some.inj H
   go_enter Try.func79, Try.ntmps79
   go_wp2_with (first | ((with_reducible refine gate_dst (N := 3) rfl ?_); refine box_event ?hg (N := 3) ?hd (cs := #[.int .i64 a0_0, .slice A0_1 l0_1.length c0_1, .slice A0_2 l0_2.length c0_2]) (t := 29) ?hr ?_; (case hd => rfl); (case hg => rfl); (case hr => first | (go_simp; done) | (go_simp; rfl)); intro gb979 hg w7 hbox hb; have n0_ := Aside0.mk (below_step ZB hb); have n1_ := Aside0.mk (hbox); have n2_ := Aside0.mk ((ZG hg : w.heap.size ≤ gb979)); have n3_ := Aside0.mk ((ZG hg : w.heap.size ≤ gb979)); clear HB; have HB := n0_; have BK979 := n1_; have GW979 := n2_; have GE979 := n3_; clear n0_ n1_ n2_ n3_; clear hb hbox hg; obtain ⟨hcz8_0, hcz8_1, hcz8_2, hfz8_0, hfz8_1, hfz8_2⟩ := ZD3 BK979) | ((with_reducible refine gate_callee (f := 55) rfl ?_); refine goesL_ (some 9) rfl rfl Try.func55 (by kernel_rfl) rfl #[.agg #[.int .i64 a0_0, .slice A0_1 l0_1.length c0_1, .slice A0_2 l0_2.length c0_2]] rfl ZA ?_; (with_reducible refine (spec_l03Is.calls k a0_0 _ _ l0_1 _ _ l0_2 true _ ?side1 ?side2 ?side3 ?side4 A4.out).mono ?_); (case side1 => exact ZC HR0_1); (case side2 => exact HC0_1.out); (case side3 => exact ZC HR0_2); (case side4 => exact HC0_2.out); rintro e w9 ⟨rfl, hb⟩; refine ⟨_, rfl, ?_⟩; have n0_ := ZL BK979 hb; have n1_ := Aside0.mk (below_step ZB hb); clear BK979; clear HB; have BK979 := n0_; have HB := n1_; clear n0_ n1_; (try clear hb); (try clear hb2); (try clear hk); (try clear hi); obtain ⟨hcz10_0, hcz10_1, hcz10_2, hfz10_0, hfz10_1, hfz10_2⟩ := ZD3 BK979))
   go_ret
   exact ⟨by first | rfl | (simp [errW_none, errW_some] <;> rfl) | (simp [*, errW_none, errW_some] <;> rfl), ZB⟩
  ·rw [if_neg c6] at H
   have c6b0 : decide ((wrap64 ((l0_1.length : Int) + a2)) < (l1.length : Int)) = false := decide_eq_false c6
   clear c6
   replace H := Option.bind_eq_some_iff.mp H
   obtain ⟨t981, A110, H⟩ := H
   replace H : (if t981 = true then (some 0) else (some 2)) = some r := H
   have A11 := Aside0.mk A110
   clear A110
   by_cases c12 : t981 = true
   ·subst c12
    have H1 : (some 0) = some r := by rw [if_pos rfl] at H; exact H
    clear H
    have H := H1
    clear H1
    obtain rfl := Option.some.inj H
    go_enter Try.func79, Try.ntmps79
    go_wp2_with (first | ((with_reducible refine gate_dst (N := 3) rfl ?_); refine box_event ?hg (N := 3) ?hd (cs := #[.int .i64 a0_0, .slice A0_1 l0_1.length c0_1, .slice A0_2 l0_2.length c0_2]) (t := 29) ?hr ?_; (case hd => rfl); (case hg => rfl); (case hr => first | (go_simp; done) | (go_simp; rfl)); intro gb979 hg w13 hbox hb; have n0_ := Aside0.mk (below_step ZB hb); have n1_ := Aside0.mk (hbox); have n2_ := Aside0.mk ((ZG hg : w.heap.size ≤ gb979)); have n3_ := Aside0.mk ((ZG hg : w.heap.size ≤ gb979)); clear HB; have HB := n0_; have BK979 := n1_; have GW979 := n2_; have GE979 := n3_; clear n0_ n1_ n2_ n3_; clear hb hbox hg; obtain ⟨hcz14_0, hcz14_1, hcz14_2, hfz14_0, hfz14_1, hfz14_2⟩ := ZD3 BK979) | ((with_reducible refine gate_callee (f := 55) rfl ?_); refine goesL_ (some 9) rfl rfl Try.func55 (by kernel_rfl) rfl #[.agg #[.int .i64 a0_0, .slice A0_1 l0_1.length c0_1, .slice A0_2 l0_2.length c0_2]] rfl ZA ?_; (with_reducible refine (spec_l03Is.calls k a0_0 _ _ l0_1 _ _ l0_2 true _ ?side1 ?side2 ?side3 ?side4 A4.out).mono ?_); (case side1 => exact ZC HR0_1); (case side2 => exact HC0_1.out); (case side3 => exact ZC HR0_2); (case side4 => exact HC0_2.out); rintro e w15 ⟨rfl, hb⟩; refine ⟨_, rfl, ?_⟩; have n0_ := ZL BK979 hb; have n1_ := Aside0.mk (below_step ZB hb); clear BK979; clear HB; have BK979 := n0_; have HB := n1_; clear n0_ n1_; (try clear hb); (try clear hb2); (try clear hk); (try clear hi); obtain ⟨hcz16_0, hcz16_1, hcz16_2, hfz16_0, hfz16_1, hfz16_2⟩ := ZD3 BK979) | (go_at_call 112; (with_reducible refine (spec_l02Numbers.calls k a0_0 _ _ l1 true _ ?side1 ?side2 A11.out).mono ?_); (case side1 => exact ZC HR1); (case side2 => exact HC1.out); rintro e w' ⟨rfl, ⟨nd, rfl⟩⟩))
    go_ret
    exact ⟨by first | rfl | (simp [errW_none, errW_some] <;> rfl) | (simp [*, errW_none, errW_some] <;> rfl), ZB⟩
   ·replace c12 := Bool.eq_false_iff.mpr c12
    subst c12
    have H1 : (some 2) = some r := by rw [if_neg (show ¬ (false = true) by decide)] at H; exact H
    clear H
    have H := H1
    clear H1
    obtain rfl := Option.some.inj H
    go_enter Try.func79, Try.ntmps79
    go_wp2_with (first | ((with_reducible refine gate_dst (N := 3) rfl ?_); refine box_event ?hg (N := 3) ?hd (cs := #[.int .i64 a0_0, .slice A0_1 l0_1.length c0_1, .slice A0_2 l0_2.length c0_2]) (t := 29) ?hr ?_; (case hd => rfl); (case hg => rfl); (case hr => first | (go_simp; done) | (go_simp; rfl)); intro gb979 hg w17 hbox hb; have n0_ := Aside0.mk (below_step ZB hb); have n1_ := Aside0.mk (hbox); have n2_ := Aside0.mk ((ZG hg : w.heap.size ≤ gb979)); have n3_ := Aside0.mk ((ZG hg : w.heap.size ≤ gb979)); clear HB; have HB := n0_; have BK979 := n1_; have GW979 := n2_; have GE979 := n3_; clear n0_ n1_ n2_ n3_; clear hb hbox hg; obtain ⟨hcz18_0, hcz18_1, hcz18_2, hfz18_0, hfz18_1, hfz18_2⟩ := ZD3 BK979) | ((with_reducible refine gate_callee (f := 55) rfl ?_); refine goesL_ (some 9) rfl rfl Try.func55 (by kernel_rfl) rfl #[.agg #[.int .i64 a0_0, .slice A0_1 l0_1.length c0_1, .slice A0_2 l0_2.length c0_2]] rfl ZA ?_; (with_reducible refine (spec_l03Is.calls k a0_0 _ _ l0_1 _ _ l0_2 true _ ?side1 ?side2 ?side3 ?side4 A4.out).mono ?_); (case side1 => exact ZC HR0_1); (case side2 => exact HC0_1.out); (case side3 => exact ZC HR0_2); (case side4 => exact HC0_2.out); rintro e w19 ⟨rfl, hb⟩; refine ⟨_, rfl, ?_⟩; have n0_ := ZL BK979 hb; have n1_ := Aside0.mk (below_step ZB hb); clear BK979; clear HB; have BK979 := n0_; have HB := n1_; clear n0_ n1_; (try clear hb); (try clear hb2); (try clear hk); (try clear hi); obtain ⟨hcz20_0, hcz20_1, hcz20_2, hfz20_0, hfz20_1, hfz20_2⟩ := ZD3 BK979) | (go_at_call 112; (with_reducible refine (spec_l02Numbers.calls k a0_0 _ _ l1 false _ ?side1 ?side2 A11.out).mono ?_); (case side1 => exact ZC HR1); (case side2 => exact HC1.out); rintro e w' ⟨rfl, ⟨nd, rfl⟩⟩))
    go_ret
    exact ⟨by first | rfl | (simp [errW_none, errW_some] <;> rfl) | (simp [*, errW_none, errW_some] <;> rfl), ZB⟩
 ·replace c5 := Bool.eq_false_iff.mpr c5
  subst c5
  have H1 : (some 1) = some r := by rw [if_neg (show ¬ (false = true) by decide)] at H; exact H
  clear H
  have H := H1
  clear H1
  obtain rfl := Option.some.inj H
  go_enter Try.func79, Try.ntmps79
  go_wp2_with (first | ((with_reducible refine gate_dst (N := 3) rfl ?_); refine box_event ?hg (N := 3) ?hd (cs := #[.int .i64 a0_0, .slice A0_1 l0_1.length c0_1, .slice A0_2 l0_2.length c0_2]) (t := 29) ?hr ?_; (case hd => rfl); (case hg => rfl); (case hr => first | (go_simp; done) | (go_simp; rfl)); intro gb979 hg w21 hbox hb; have n0_ := Aside0.mk (below_step ZB hb); have n1_ := Aside0.mk (hbox); have n2_ := Aside0.mk ((ZG hg : w.heap.size ≤ gb979)); have n3_ := Aside0.mk ((ZG hg : w.heap.size ≤ gb979)); clear HB; have HB := n0_; have BK979 := n1_; have GW979 := n2_; have GE979 := n3_; clear n0_ n1_ n2_ n3_; clear hb hbox hg; obtain ⟨hcz22_0, hcz22_1, hcz22_2, hfz22_0, hfz22_1, hfz22_2⟩ := ZD3 BK979) | ((with_reducible refine gate_callee (f := 55) rfl ?_); refine goesL_ (some 9) rfl rfl Try.func55 (by kernel_rfl) rfl #[.agg #[.int .i64 a0_0, .slice A0_1 l0_1.length c0_1, .slice A0_2 l0_2.length c0_2]] rfl ZA ?_; (with_reducible refine (spec_l03Is.calls k a0_0 _ _ l0_1 _ _ l0_2 false _ ?side1 ?side2 ?side3 ?side4 A4.out).mono ?_); (case side1 => exact ZC HR0_1); (case side2 => exact HC0_1.out); (case side3 => exact ZC HR0_2); (case side4 => exact HC0_2.out); rintro e w23 ⟨rfl, hb⟩; refine ⟨_, rfl, ?_⟩; have n0_ := ZL BK979 hb; have n1_ := Aside0.mk (below_step ZB hb); clear BK979; clear HB; have BK979 := n0_; have HB := n1_; clear n0_ n1_; (try clear hb); (try clear hb2); (try clear hk); (try clear hi)))
  go_ret
  exact ⟨by first | rfl | (simp [errW_none, errW_some] <;> rfl) | (simp [*, errW_none, errW_some] <;> rfl), ZB⟩

/-! ### spec_l10Sum: function 80 -/
def spec_l10Sum.l0 : Nat → List Int → List Int → Int → Int → List Int → List Int → Option (List Int)
 | 0, _, _, _, _, _, _ => none
 | k + 1, x1, x5, x6, x983000, x983001, x983002 => if x6 < (x1.length : Int) then ((spec_l03Poly.f k x983000 x983001 x983002 x6).bind fun t986 => (if 0 ≤ x6 then ((spec_l01Add.f k x983000 x5 t986 (rd x1 x6)).bind fun t990 => (spec_l10Sum.l0 k x1 t990 (wrap64 (x6 + 1)) x983000 x983001 x983002)) else (none))) else (some x5)
def spec_l10Sum.f (k : Nat) (a0_0 : Int) (l0_1 : List Int) (l0_2 : List Int) (l1 : List Int) : Option (List Int) := spec_l10Sum.l0 k l1 (([] : List Int)) 0 a0_0 l0_1 l0_2
theorem spec_l10Sum.mono_l : ∀ k, (∀ y0 y1 y2 y3 y4 y5, LeO (spec_l10Sum.l0 k y0 y1 y2 y3 y4 y5) (spec_l10Sum.l0 (k + 1) y0 y1 y2 y3 y4 y5))
 | 0 => fun _ _ _ _ _ _ r h => by simp [spec_l10Sum.l0] at h
 | k + 1 => by
  have ih0 := spec_l10Sum.mono_l k
  ·intro y0 y1 y2 y3 y4 y5
   unfold spec_l10Sum.l0
   repeat' first
   | (with_reducible exact ih0 _ _ _ _ _ _)
   | (with_reducible exact spec_l01Add.mono _ _ _ _ _)
   | (with_reducible exact spec_l03Poly.mono _ _ _ _ _)
   | (with_reducible exact LeO.refl _)
   | (with_reducible exact LeO.none _)
   | (with_reducible refine LeO.ite ?_ ?_)
   | (with_reducible refine LeO.bind ?_ (fun _ => ?_))
   | exact ih0 _ _ _ _ _ _
   | exact spec_l01Add.mono _ _ _ _ _
   | exact spec_l03Poly.mono _ _ _ _ _
   | exact LeO.none _
   | refine LeO.ite ?_ ?_
   | refine LeO.bind ?_ (fun _ => ?_)
theorem spec_l10Sum.mono : ∀ a0 a1 a2 a3 k, LeO (spec_l10Sum.f k a0 a1 a2 a3) (spec_l10Sum.f (k + 1) a0 a1 a2 a3) := by
 intro a0 a1 a2 a3 k
 have ih0 := spec_l10Sum.mono_l k
 unfold spec_l10Sum.f
 repeat' first
   | (with_reducible exact ih0 _ _ _ _ _ _)
   | (with_reducible exact spec_l01Add.mono _ _ _ _ _)
   | (with_reducible exact spec_l03Poly.mono _ _ _ _ _)
   | (with_reducible exact LeO.refl _)
   | (with_reducible exact LeO.none _)
   | (with_reducible refine LeO.ite ?_ ?_)
   | (with_reducible refine LeO.bind ?_ (fun _ => ?_))
   | exact ih0 _ _ _ _ _ _
   | exact spec_l01Add.mono _ _ _ _ _
   | exact spec_l03Poly.mono _ _ _ _ _
   | exact LeO.none _
   | refine LeO.ite ?_ ?_
   | refine LeO.bind ?_ (fun _ => ?_)
def spec_l10Sum.T5 : Bool × List (List Nat × List Nat) := (true, [([], []), ([0], [0]), ([], []), ([], []), ([], []), ([3, 4], [3, 4]), ([], []), ([], []), ([6, 7], [6, 7]), ([8], [8]), ([1, 2, 5, 9, 5], [1, 2, 5, 9]), ([10, 10, 0, 1, 2, 3, 4, 5, 6, 7, 8, 9, 10], [2, 10])])
def spec_l10Sum.B5 : List Nat := [0, 1, 0, 0, 0, 24, 0, 0, 192, 448, 1023, 2047]
theorem spec_l10Sum.tab5 : rtab .any (opsOf Try.f80 5) = spec_l10Sum.T5 := by kernel_rfl
theorem spec_l10Sum.bits5 : waitsOk spec_l10Sum.T5.2 spec_l10Sum.B5 = true := by kernel_rfl
set_option maxHeartbeats 8000000 in
set_option maxRecDepth 100000 in
theorem spec_l10Sum.calls (k : Nat) (a0_0 : Int) (A0_1 : Option Addr) (c0_1 : Nat) (l0_1 : List Int) (A0_2 : Option Addr) (c0_2 : Nat) (l0_2 : List Int) (A1 : Option Addr) (c1 : Nat) (l1 : List Int) (r : List Int) (w : World) (hr0_1 : Kd.C (Kd.int .i64) w A0_1 l0_1.length l0_1) (hc0_1 : l0_1.length ≤ c0_1) (hr0_2 : Kd.C (Kd.int .i64) w A0_2 l0_2.length l0_2) (hc0_2 : l0_2.length ≤ c0_2) (hr1 : Kd.C (Kd.int .i64) w A1 l1.length l1) (hc1 : l1.length ≤ c1) (h : spec_l10Sum.f k a0_0 l0_1 l0_2 l1 = some r) :
  Calls Try.prog 80 #[.agg #[.int .i64 a0_0, .slice A0_1 l0_1.length c0_1, .slice A0_2 l0_2.length c0_2], .slice A1 l1.length c1] w fun e w' => ∃ v0_ : Value, e = .returned (v0_) ∧ Kd.R (Kd.int .i64) 2 w' w.heap.size (fun _ => True) v0_ r ∧ Below w.heap.size w w' := by
 have hu29 := Try.underlying29
 have HR0_1 := Aside0.mk hr0_1
 have HC0_1 := Aside0.mk hc0_1
 clear hr0_1 hc0_1
 have HR0_2 := Aside0.mk hr0_2
 have HC0_2 := Aside0.mk hc0_2
 clear hr0_2 hc0_2
 have HR1 := Aside0.mk hr1
 have HC1 := Aside0.mk hc1
 clear hr1 hc1
 have HB := Aside0.mk (Below.refl w.heap.size w)
 have H : (spec_l10Sum.l0 k l1 (([] : List Int)) 0 a0_0 l0_1 l0_2) = some r := h
 clear h
 obtain ⟨y983, hy983⟩ : ∃ y_ : List Int, y_ = (([] : List Int)) := ⟨_, rfl⟩
 replace H : (spec_l10Sum.l0 k l1 y983 0 a0_0 l0_1 l0_2) = some r := by first | (rw [hy983]; with_reducible exact H) | (have H2_ := (Option.bind_some _ _).symm.trans H; rw [hy983]; with_reducible exact H2_) | (have H2_ := (Option.bind_some _ _).symm.trans H; with_reducible exact H2_) | with_reducible exact H | (rw [hy983]; exact H) | exact H
 have Ny983 := Aside0.mk hy983
 clear hy983
 have H' := Aside0.mk H
 clear H
 go_enter Try.func80, Try.ntmps80
 go_wp2_with (first | ((with_reducible refine gate_dst (N := 2) rfl ?_); refine box_event ?hg (N := 2) ?hd (cs := #[.int .i64 a0_0, .slice A0_1 l0_1.length c0_1, .slice A0_2 l0_2.length c0_2]) (t := 29) ?hr ?_; (case hd => rfl); (case hg => rfl); (case hr => first | (go_simp; done) | (go_simp; rfl)); intro gb982 hg w3 hbox hb; have n0_ := Aside0.mk (below_step ZB hb); have n1_ := Aside0.mk (hbox); have n2_ := Aside0.mk ((ZG hg : w.heap.size ≤ gb982)); have n3_ := Aside0.mk ((ZG hg : w.heap.size ≤ gb982)); clear HB; have HB := n0_; have BK982 := n1_; have GW982 := n2_; have GE982 := n3_; clear n0_ n1_ n2_ n3_; clear hb hbox hg) | ((with_reducible refine gate_dst (N := 7) rfl ?_); refine Kd.R_lit (Kd.int .i64) _ 2 ?hg (N := 7) ?hd (xs := ([] : List Int)) (inner := []) (ok := fun _ => True) (okp := fun _ => True) ?hr ?hp (fun _ hk => hk) trivial (Below.refl _ _) (Nat.le_refl _) (by simp) ?_; (case hd => rfl); (case hg => rfl); (case hr => first | (go_simp; done) | (go_simp; rfl)); (case hp => exact (Reps.none _ _)); intro v984 w4 ho5 hb hg_ hnew_; clear hg_ hnew_; (first | rw [← Ny983.out] at ho5 | (simp only [Int.reduceToNat] at ho5; rw [← Ny983.out] at ho5)); have n0_ := Aside0.mk (Kd.R_lower ho5 (below_size ZB)); have n1_ := ZL BK982 hb; have n2_ := Aside0.mk (below_step ZB hb); clear BK982; clear HB; have HO985 := n0_; have BK982 := n1_; have HB := n2_; clear n0_ n1_ n2_; clear hb ho5))
 go_loopg [5, 6] k (fun kq v5 v6 w' => ∃ (x5_1 : List Int) (x6_1 : Int), v6 = .int .i64 x6_1 ∧ Aside0 (spec_l10Sum.l0 kq l1 x5_1 x6_1 a0_0 l0_1 l0_2 = some r) ∧ Aside0 (kq ≤ k) ∧ Aside0 (Kd.R (Kd.int .i64) 2 w' w.heap.size (fun _ => True) v5 x5_1) ∧ Aside0 (w'.heap[gb982]? = some (.cells #[.int .i64 a0_0, (.slice A0_1 l0_1.length c0_1), (.slice A0_2 l0_2.length c0_2)] 29 (0, 0))) ∧ Aside0 (Below w.heap.size w w'))
 case atStart => exact ⟨(y983), (0), (by first | rfl | (simp; done) | (simp [*]; done)), H', ⟨Nat.le_refl _⟩, ⟨ZR HO985⟩, ⟨ZK BK982⟩, ⟨ZB⟩⟩
 case round =>
  clear H'
  try clear c1
  try clear p2
  obtain ⟨x5_1, x6_1, rfl, HA, HK1, HO_5, BK982, HB⟩ := hrel
  cases gk with
  | zero => exact absurd HA.out (by simp [spec_l10Sum.l0])
  | succ k1 =>
   have H := HA.out
   clear HA
   simp only [spec_l10Sum.l0] at H
   by_cases c6 : x6_1 < (l1.length : Int)
   ·rw [if_pos c6] at H
    have c6b0 : decide (x6_1 < (l1.length : Int)) = true := decide_eq_true c6
    clear c6
    replace H := Option.bind_eq_some_iff.mp H
    obtain ⟨t986, A70, H⟩ := H
    replace H : (if 0 ≤ x6_1 then ((spec_l01Add.f k1 a0_0 x5_1 t986 (rd l1 x6_1)).bind fun t990 => (spec_l10Sum.l0 k1 l1 t990 (wrap64 (x6_1 + 1)) a0_0 l0_1 l0_2)) else (none)) = some r := H
    have A7 := Aside0.mk A70
    clear A70
    by_cases c8 : 0 ≤ x6_1
    ·rw [if_pos c8] at H
     have c8b0 : decide (0 ≤ x6_1) = true := decide_eq_true c8
     clear c8
     replace H := Option.bind_eq_some_iff.mp H
     obtain ⟨t990, A90, H⟩ := H
     replace H : (spec_l10Sum.l0 k1 l1 t990 (wrap64 (x6_1 + 1)) a0_0 l0_1 l0_2) = some r := H
     have A9 := Aside0.mk A90
     clear A90
     have H' := Aside0.mk H
     clear H
     try go_wp2
     have n0_ := Aside0.mk (Kd.R_drew HO_5.out)
     have n1_ := Aside0.mk (blk_drew BK982.out)
     have n2_ := Aside0.mk (below_drew1 HB.out)
     clear HO_5
     clear BK982
     clear HB
     have HO_5 := n0_
     have BK982 := n1_
     have HB := n2_
     clear n0_ n1_ n2_
     have p989 : 0 ≤ (x6_1 : Int) := of_decide_eq_true (by first | (with_reducible assumption) | assumption)
     have q989 : x6_1 < (l1.length : Int) := of_decide_eq_true (by first | (with_reducible assumption) | assumption)
     obtain ⟨ad989, e989, hx989_0⟩ := Kd.at_int HR1.out x6_1 p989 q989
     have hw989_0 := hx989_0
     cases e989
     replace hx989_0 := (HB.out.cell (World.block_lt_of_cell? w _ hx989_0)).trans hx989_0
     replace p989 := eq_true p989
     replace q989 := eq_true q989
     refine start_ (n := 12) (S := fun w' => w'.cell? ⟨gb982, 0, none⟩ = some (.int .i64 a0_0) ∧ w'.cell? ⟨gb982, 1, none⟩ = some (.slice A0_1 l0_1.length c0_1) ∧ w'.cell? ⟨gb982, 2, none⟩ = some (.slice A0_2 l0_2.length c0_2) ∧ w'.cell? (ad989.add (x6_1).toNat) = some (.int .i64 (rd l1 x6_1))) (ds := []) #[false, false, false, false, false, false, false, false, false, false, false, false] (by kernel_rfl) rfl rfl ⟨(blk_cell BK982.out 0).trans rfl, (blk_cell BK982.out 1).trans rfl, (blk_cell BK982.out 2).trans rfl, ((HB.out.cell (World.block_lt_of_cell? w _ hw989_0)).trans hw989_0)⟩ (fun hHeld => ?_); refine with_tabW spec_l10Sum.tab5 spec_l10Sum.bits5 (fun HT_ HW_ => ?_)
     generalize wr.drew = w10 at HO_5 BK982 HB hx989_0 hHeld ⊢
     refine Zpt 0 (some 14) (h := ?_)
     refine Zpt 2 (some 16) (h := ?_)
     refine Zpt 4 (some 18) (h := ?_)
     refine Zpt 6 (some 20) (h := ?_)
     refine Zpt 7 (some 21) (h := ?_)
     refine Zpt 8 (some 22) (h := ?_)
     refine ZtW4 1 (some 15) hHeld (h := ?_)
     refine ZtW4 3 (some 17) hHeld (h := ?_)
     refine ZtW4 9 (some 23) hHeld (h := ?_)
     refine one_ (i := 5) (N := some 19) #[true, true, true, true, true, true, true, true, true, true, false, false] rfl rfl (one_of HT_.out (by kernel_rfl)) (by decide) (fun K hK => ?_)
     refine goes_ Try.func75 (by kernel_rfl) rfl #[.agg #[.int .i64 a0_0, .slice A0_1 l0_1.length c0_1, .slice A0_2 l0_2.length c0_2], .int .i64 x6_1] (by rfl) rfl rfl ZA ?_
     with_reducible refine (spec_l03Poly.calls k1 a0_0 _ _ l0_1 _ _ l0_2 x6_1 t986 _ ?side1 ?side2 ?side3 ?side4 A7.out).mono ?_
     (case side1 => exact ZC HR0_1)
     (case side2 => exact HC0_1.out)
     (case side3 => exact ZC HR0_2)
     (case side4 => exact HC0_2.out)
     rintro e w11 ⟨v987, rfl, ho0, hb⟩
     refine ⟨_, rfl, ?_⟩
     have n0_ := Aside0.mk (Kd.R_elder' (ZR HO_5) (Kd.R_base ho0) hb)
     have n1_ := Aside0.mk (Kd.R_lower (Kd.R_new' ho0 (Kd.R_lt (ZR HO_5))) (below_size ZB))
     have n2_ := ZL BK982 hb
     have n3_ := Aside0.mk (below_step ZB hb)
     clear HO_5
     clear BK982
     clear HB
     have HO_5 := n0_
     have HO988 := n1_
     have BK982 := n2_
     have HB := n3_
     clear n0_ n1_ n2_ n3_
     (try clear hb)
     (try clear hb2)
     (try clear hk)
     (try clear hi)
     (try clear ho0)
     obtain ⟨Ao12, co12, eo12⟩ := Kd.R_slice HO_5.out
     (first | subst eo12 | (injection eo12 with f1_ f2_ f3_; have f4_ := f1_.symm; have f5_ := f3_.symm; clear f1_ f2_ f3_; subst f4_; subst f5_))
     obtain ⟨Ao13, co13, eo13⟩ := Kd.R_slice HO988.out
     (first | subst eo13 | (injection eo13 with f1_ f2_ f3_; have f4_ := f1_.symm; have f5_ := f3_.symm; clear f1_ f2_ f3_; subst f4_; subst f5_))
     refine hK.out _ _ ⟨(blk_cell BK982.out 0).trans rfl, (blk_cell BK982.out 1).trans rfl, (blk_cell BK982.out 2).trans rfl, ((HB.out.cell (World.block_lt_of_cell? w _ hw989_0)).trans hw989_0)⟩ (fun hHeld => ?_)
     clear hK K
     refine norm_ (a' := ?_) ?_ ?_
     rotate_left
     ·show Act.put _ (some 19) _ = _
      simp only [Act.put, List.setIfInBounds_toArray, List.set_cons_zero, List.set_cons_succ, i64_w, i32_w]
      rfl
     refine one_ (i := 10) (N := some 24) #[true, true, true, true, true, true, true, true, true, true, true, false] rfl rfl (one_of HT_.out (by kernel_rfl)) (by decide) (fun K hK => ?_)
     refine goes_ Try.func103 (by kernel_rfl) rfl #[.int .i64 a0_0, .slice Ao12 x5_1.length co12, .slice Ao13 t986.length co13, .int .i64 (rd l1 x6_1)] (by rfl) rfl rfl ZA ?_
     with_reducible refine (spec_l01Add.calls k1 a0_0 _ _ x5_1 _ _ t986 (rd l1 x6_1) t990 _ ?side1 ?side2 ?side3 ?side4 A9.out).mono ?_
     (case side1 => repeat (first | exact (Kd.R_reads' HO_5.out).2.2 | (with_reducible refine Kd.C_alloc ?_ _) | (with_reducible refine Kd.C_drewN ?_ _) | (with_reducible refine Kd.C_drew ?_)))
     (case side2 => exact (Kd.R_reads' HO_5.out).2.1)
     (case side3 => repeat (first | exact (Kd.R_reads' HO988.out).2.2 | (with_reducible refine Kd.C_alloc ?_ _) | (with_reducible refine Kd.C_drewN ?_ _) | (with_reducible refine Kd.C_drew ?_)))
     (case side4 => exact (Kd.R_reads' HO988.out).2.1)
     rintro e w14 ⟨v991, rfl, ho0, hb⟩
     refine ⟨_, rfl, ?_⟩
     have n0_ := Aside0.mk (Kd.R_elder' (ZR HO_5) (Kd.R_base ho0) hb)
     have n1_ := Aside0.mk (Kd.R_elder' (ZR HO988) (Kd.R_base ho0) hb)
     have n2_ := Aside0.mk (Kd.R_lower (Kd.R_new' (Kd.R_new' ho0 (Kd.R_lt (ZR HO_5))) (Kd.R_lt (ZR HO988))) (below_size ZB))
     have n3_ := ZL BK982 hb
     have n4_ := Aside0.mk (below_step ZB hb)
     clear HO_5
     clear HO988
     clear BK982
     clear HB
     have HO_5 := n0_
     have HO988 := n1_
     have HO992 := n2_
     have BK982 := n3_
     have HB := n4_
     clear n0_ n1_ n2_ n3_ n4_
     (try clear hb)
     (try clear hb2)
     (try clear hk)
     (try clear hi)
     (try clear ho0)
     refine hK.out _ _ ⟨(blk_cell BK982.out 0).trans rfl, (blk_cell BK982.out 1).trans rfl, (blk_cell BK982.out 2).trans rfl, ((HB.out.cell (World.block_lt_of_cell? w _ hw989_0)).trans hw989_0)⟩ (fun hHeld => ?_)
     clear hK K
     refine norm_ (a' := ?_) ?_ ?_
     rotate_left
     ·show Act.put _ (some 24) _ = _
      simp only [Act.put, List.setIfInBounds_toArray, List.set_cons_zero, List.set_cons_succ, i64_w, i32_w]
      rfl
     refine Zpt 11 (some 5) (h := ?_)
     refine done_ (done_of HT_.out (by kernel_rfl)) ?_
     try go_wp2
     go_roundg k1
     case measure => have := HK1.out; omega
     case rel => exact ⟨(t990), (wrap64 (x6_1 + 1)), (by first | rfl | (simp; done) | (simp [*]; done)), H', ⟨by have := HK1.out; omega⟩, ⟨by refine ZQ ?_; exact Kd.R_mono HO992.out (fun _ hk => trivial)⟩, ⟨ZK BK982⟩, ⟨ZB⟩⟩
    ·rw [if_neg c8] at H
     exact absurd H (by simp)
   ·rw [if_neg c6] at H
    have c6b0 : decide (x6_1 < (l1.length : Int)) = false := decide_eq_false c6
    clear c6
    obtain rfl := Option.some.inj H
    go_wp2
    go_ret
    exact ⟨_, by first | rfl | (simp [errW_none, errW_some] <;> rfl) | (simp [*, errW_none, errW_some] <;> rfl), by refine ZQ ?_; exact HO_5.out, ZB⟩

/-! ### impl_areNumbers: function 113 -/
def impl_areNumbers.f (k : Nat) (a0 : Int) (l1 : List Int) (a2 : Int) (a3 : Int) : Option (Bool) := (impl_IsPrime.f k a0).bind fun t998 => (if t998 = true then ((impl_length_int64.f l1).bind fun t999 => ((impl_within.f t999 a2 a3).bind fun t1000 => (if t1000 = true then ((impl_areAll_int64_by_impl_field_has.f l1 a0).bind fun t1001 => (some t1001)) else (some false)))) else (some false))
theorem impl_areNumbers.mono : ∀ a0 a1 a2 a3 k, LeO (impl_areNumbers.f k a0 a1 a2 a3) (impl_areNumbers.f (k + 1) a0 a1 a2 a3) := by
 intro a0 a1 a2 a3 k
 unfold impl_areNumbers.f
 repeat' first
   | (with_reducible exact impl_IsPrime.mono _ _)
   | (with_reducible exact LeO.refl _)
   | (with_reducible exact LeO.none _)
   | (with_reducible refine LeO.ite ?_ ?_)
   | (with_reducible refine LeO.bind ?_ (fun _ => ?_))
   | exact impl_IsPrime.mono _ _
   | exact LeO.none _
   | refine LeO.ite ?_ ?_
   | refine LeO.bind ?_ (fun _ => ?_)
set_option maxHeartbeats 8000000 in
set_option maxRecDepth 100000 in
theorem impl_areNumbers.calls (k : Nat) (a0 : Int) (A1 : Option Addr) (c1 : Nat) (l1 : List Int) (a2 : Int) (a3 : Int) (r : Bool) (w : World) (hr1 : Kd.C (Kd.int .i64) w A1 l1.length l1) (hc1 : l1.length ≤ c1) (h : impl_areNumbers.f k a0 l1 a2 a3 = some r) :
  Calls Try.prog 113 #[.int .i64 a0, .slice A1 l1.length c1, .int .i64 a2, .int .i64 a3] w fun e w' => e = .returned (.bool r) ∧ Below w.heap.size w w' := by
 have hmf : ∀ (fn : Fn) (first cap : Array Value) (w : World), (Instr.makeFunc fn first cap).run Try.prog w = .ok (.func fn first cap) w := fun _ _ _ _ => rfl
 have HR1 := Aside0.mk hr1
 have HC1 := Aside0.mk hc1
 clear hr1 hc1
 have HB := Aside0.mk (Below.refl w.heap.size w)
 have H : ((impl_IsPrime.f k a0).bind fun t998 => (if t998 = true then ((impl_length_int64.f l1).bind fun t999 => ((impl_within.f t999 a2 a3).bind fun t1000 => (if t1000 = true then ((impl_areAll_int64_by_impl_field_has.f l1 a0).bind fun t1001 => (some t1001)) else (some false)))) else (some false))) = some r := h
 clear h
 replace H := Option.bind_eq_some_iff.mp H
 obtain ⟨t998, A50, H⟩ := H
 replace H : (if t998 = true then ((impl_length_int64.f l1).bind fun t999 => ((impl_within.f t999 a2 a3).bind fun t1000 => (if t1000 = true then ((impl_areAll_int64_by_impl_field_has.f l1 a0).bind fun t1001 => (some t1001)) else (some false)))) else (some false)) = some r := H
 have A5 := Aside0.mk A50
 clear A50
 by_cases c6 : t998 = true
 ·subst c6
  have H1 : ((impl_length_int64.f l1).bind fun t999 => ((impl_within.f t999 a2 a3).bind fun t1000 => (if t1000 = true then ((impl_areAll_int64_by_impl_field_has.f l1 a0).bind fun t1001 => (some t1001)) else (some false)))) = some r := by rw [if_pos rfl] at H; exact H
  clear H
  have H := H1
  clear H1
  replace H := Option.bind_eq_some_iff.mp H
  obtain ⟨t999, A70, H⟩ := H
  replace H : ((impl_within.f t999 a2 a3).bind fun t1000 => (if t1000 = true then ((impl_areAll_int64_by_impl_field_has.f l1 a0).bind fun t1001 => (some t1001)) else (some false))) = some r := H
  have A7 := Aside0.mk A70
  clear A70
  replace H := Option.bind_eq_some_iff.mp H
  obtain ⟨t1000, A80, H⟩ := H
  replace H : (if t1000 = true then ((impl_areAll_int64_by_impl_field_has.f l1 a0).bind fun t1001 => (some t1001)) else (some false)) = some r := H
  have A8 := Aside0.mk A80
  clear A80
  by_cases c9 : t1000 = true
  ·subst c9
   have H1 : ((impl_areAll_int64_by_impl_field_has.f l1 a0).bind fun t1001 => (some t1001)) = some r := by rw [if_pos rfl] at H; exact H
   clear H
   have H := H1
   clear H1
   replace H := Option.bind_eq_some_iff.mp H
   obtain ⟨t1001, A100, H⟩ := H
   replace H : (some t1001) = some r := H
   have A10 := Aside0.mk A100
   clear A100
   obtain rfl := Option.some.inj H
   go_enter Try.func113, Try.ntmps113
   go_wp2_with (first | ((with_reducible refine gate_callee (f := 104) rfl ?_); refine goesL_ (some 10) rfl rfl Try.func104 (by kernel_rfl) rfl #[.int .i64 a0] rfl ZA ?_; (with_reducible refine (impl_IsPrime.calls k a0 true _ A5.out).mono ?_); rintro e w' ⟨rfl, ⟨nd, rfl⟩⟩; refine ⟨_, rfl, ?_⟩) | (go_at_call 96; (with_reducible refine (impl_length_int64.calls _ _ l1 t999 _ ?side1 ?side2 A7.out).mono ?_); (case side1 => repeat (first | exact HR1.out | (with_reducible refine Kd.C_alloc ?_ _) | (with_reducible refine Kd.C_drewN ?_ _) | (with_reducible refine Kd.C_drew ?_))); (case side2 => exact HC1.out); rintro e w' ⟨rfl, ⟨nd, rfl⟩⟩) | (go_at_call 76; (with_reducible refine (impl_within.calls t999 a2 a3 true _ A8.out).mono ?_); rintro e w' ⟨rfl, ⟨nd, rfl⟩⟩) | (go_at_call 105; (with_reducible refine (impl_areAll_int64_by_impl_field_has.calls _ _ l1 a0 t1001 _ ?side1 ?side2 A10.out).mono ?_); (case side1 => repeat (first | exact HR1.out | (with_reducible refine Kd.C_alloc ?_ _) | (with_reducible refine Kd.C_drewN ?_ _) | (with_reducible refine Kd.C_drew ?_))); (case side2 => exact HC1.out); rintro e w11 ⟨rfl, hb⟩; have n0_ := Aside0.mk (below_step ZB hb); clear HB; have HB := n0_; clear n0_; (try clear hb); (try clear hb2); (try clear hk); (try clear hi)))
   go_ret
   exact ⟨by first | rfl | (simp [errW_none, errW_some] <;> rfl) | (simp [*, errW_none, errW_some] <;> rfl), ZB⟩
  ·replace c9 := Bool.eq_false_iff.mpr c9
   subst c9
   have H1 : (some false) = some r := by rw [if_neg (show ¬ (false = true) by decide)] at H; exact H
   clear H
   have H := H1
   clear H1
   obtain rfl := Option.some.inj H
   go_enter Try.func113, Try.ntmps113
   go_wp2_with (first | ((with_reducible refine gate_callee (f := 104) rfl ?_); refine goesL_ (some 10) rfl rfl Try.func104 (by kernel_rfl) rfl #[.int .i64 a0] rfl ZA ?_; (with_reducible refine (impl_IsPrime.calls k a0 true _ A5.out).mono ?_); rintro e w' ⟨rfl, ⟨nd, rfl⟩⟩; refine ⟨_, rfl, ?_⟩) | (go_at_call 96; (with_reducible refine (impl_length_int64.calls _ _ l1 t999 _ ?side1 ?side2 A7.out).mono ?_); (case side1 => repeat (first | exact HR1.out | (with_reducible refine Kd.C_alloc ?_ _) | (with_reducible refine Kd.C_drewN ?_ _) | (with_reducible refine Kd.C_drew ?_))); (case side2 => exact HC1.out); rintro e w' ⟨rfl, ⟨nd, rfl⟩⟩) | (go_at_call 76; (with_reducible refine (impl_within.calls t999 a2 a3 false _ A8.out).mono ?_); rintro e w' ⟨rfl, ⟨nd, rfl⟩⟩))
   go_ret
   exact ⟨by first | rfl | (simp [errW_none, errW_some] <;> rfl) | (simp [*, errW_none, errW_some] <;> rfl), ZB⟩
 ·replace c6 := Bool.eq_false_iff.mpr c6
  subst c6
  have H1 : (some false) = some r := by rw [if_neg (show ¬ (false = true) by decide)] at H; exact H
  clear H
  have H := H1
  clear H1
  obtain rfl := Option.some.inj H
  go_enter Try.func113, Try.ntmps113
  go_wp2_with (first | ((with_reducible refine gate_callee (f := 104) rfl ?_); refine goesL_ (some 10) rfl rfl Try.func104 (by kernel_rfl) rfl #[.int .i64 a0] rfl ZA ?_; (with_reducible refine (impl_IsPrime.calls k a0 false _ A5.out).mono ?_); rintro e w' ⟨rfl, ⟨nd, rfl⟩⟩; refine ⟨_, rfl, ?_⟩))
  go_ret
  exact ⟨by first | rfl | (simp [errW_none, errW_some] <;> rfl) | (simp [*, errW_none, errW_some] <;> rfl), ZB⟩

/-! ### impl_Jacobi_isList: function 81 -/
def impl_Jacobi_isList.f (k : Nat) (a0_0 : Int) (l0_1 : List Int) (l0_2 : List Int) (l1 : List Int) (a2 : Int) : Option (Bool) := (impl_areNumbers.f k a0_0 l1 0 a2).bind fun t1003 => (some t1003)
theorem impl_Jacobi_isList.mono : ∀ a0 a1 a2 a3 a4 k, LeO (impl_Jacobi_isList.f k a0 a1 a2 a3 a4) (impl_Jacobi_isList.f (k + 1) a0 a1 a2 a3 a4) := by
 intro a0 a1 a2 a3 a4 k
 unfold impl_Jacobi_isList.f
 repeat' first
   | (with_reducible exact impl_areNumbers.mono _ _ _ _ _)
   | (with_reducible exact LeO.refl _)
   | (with_reducible exact LeO.none _)
   | (with_reducible refine LeO.ite ?_ ?_)
   | (with_reducible refine LeO.bind ?_ (fun _ => ?_))
   | exact impl_areNumbers.mono _ _ _ _ _
   | exact LeO.none _
   | refine LeO.ite ?_ ?_
   | refine LeO.bind ?_ (fun _ => ?_)
set_option maxHeartbeats 8000000 in
set_option maxRecDepth 100000 in
theorem impl_Jacobi_isList.calls (k : Nat) (a0_0 : Int) (A0_1 : Option Addr) (c0_1 : Nat) (l0_1 : List Int) (A0_2 : Option Addr) (c0_2 : Nat) (l0_2 : List Int) (A1 : Option Addr) (c1 : Nat) (l1 : List Int) (a2 : Int) (r : Bool) (w : World) (hr0_1 : Kd.C (Kd.int .i64) w A0_1 l0_1.length l0_1) (hc0_1 : l0_1.length ≤ c0_1) (hr0_2 : Kd.C (Kd.int .i64) w A0_2 l0_2.length l0_2) (hc0_2 : l0_2.length ≤ c0_2) (hr1 : Kd.C (Kd.int .i64) w A1 l1.length l1) (hc1 : l1.length ≤ c1) (h : impl_Jacobi_isList.f k a0_0 l0_1 l0_2 l1 a2 = some r) :
  Calls Try.prog 81 #[.agg #[.int .i64 a0_0, .slice A0_1 l0_1.length c0_1, .slice A0_2 l0_2.length c0_2], .slice A1 l1.length c1, .int .i64 a2] w fun e w' => e = .returned (.bool r) ∧ Below w.heap.size w w' := by
 have hu29 := Try.underlying29
 have HR0_1 := Aside0.mk hr0_1
 have HC0_1 := Aside0.mk hc0_1
 clear hr0_1 hc0_1
 have HR0_2 := Aside0.mk hr0_2
 have HC0_2 := Aside0.mk hc0_2
 clear hr0_2 hc0_2
 have HR1 := Aside0.mk hr1
 have HC1 := Aside0.mk hc1
 clear hr1 hc1
 have HB := Aside0.mk (Below.refl w.heap.size w)
 have H : ((impl_areNumbers.f k a0_0 l1 0 a2).bind fun t1003 => (some t1003)) = some r := h
 clear h
 replace H := Option.bind_eq_some_iff.mp H
 obtain ⟨t1003, A40, H⟩ := H
 replace H : (some t1003) = some r := H
 have A4 := Aside0.mk A40
 clear A40
 obtain rfl := Option.some.inj H
 go_enter Try.func81, Try.ntmps81
 go_wp2_with (first | ((with_reducible refine gate_dst (N := 3) rfl ?_); refine box_event ?hg (N := 3) ?hd (cs := #[.int .i64 a0_0, .slice A0_1 l0_1.length c0_1, .slice A0_2 l0_2.length c0_2]) (t := 29) ?hr ?_; (case hd => rfl); (case hg => rfl); (case hr => first | (go_simp; done) | (go_simp; rfl)); intro gb1002 hg w5 hbox hb; have n0_ := Aside0.mk (below_step ZB hb); have n1_ := Aside0.mk (hbox); have n2_ := Aside0.mk ((ZG hg : w.heap.size ≤ gb1002)); have n3_ := Aside0.mk ((ZG hg : w.heap.size ≤ gb1002)); clear HB; have HB := n0_; have BK1002 := n1_; have GW1002 := n2_; have GE1002 := n3_; clear n0_ n1_ n2_ n3_; clear hb hbox hg; obtain ⟨hcz6_0, hcz6_1, hcz6_2, hfz6_0, hfz6_1, hfz6_2⟩ := ZD3 BK1002) | ((with_reducible refine gate_callee (f := 113) rfl ?_); refine goesL_ (some 11) rfl rfl Try.func113 (by kernel_rfl) rfl #[.int .i64 a0_0, .slice A1 l1.length c1, .int .i64 0, .int .i64 a2] rfl ZA ?_; (with_reducible refine (impl_areNumbers.calls k a0_0 _ _ l1 0 a2 t1003 _ ?side1 ?side2 A4.out).mono ?_); (case side1 => exact ZC HR1); (case side2 => exact HC1.out); rintro e w7 ⟨rfl, hb⟩; refine ⟨_, rfl, ?_⟩; have n0_ := ZL BK1002 hb; have n1_ := Aside0.mk (below_step ZB hb); clear BK1002; clear HB; have BK1002 := n0_; have HB := n1_; clear n0_ n1_; (try clear hb); (try clear hb2); (try clear hk); (try clear hi)))
 go_ret
 exact ⟨by first | rfl | (simp [errW_none, errW_some] <;> rfl) | (simp [*, errW_none, errW_some] <;> rfl), ZB⟩

/-! ### impl_field_sum: function 82 -/
def impl_field_sum.l0 : Nat → Int → List (List Int) → List Int → List Int → Int → Int → Option (List Int)
 | 0, _, _, _, _, _, _ => none
 | k + 1, x0, x2, x7, x10, x11, x12 => if x12 < x11 then (if 0 ≤ x12 then (if x12 < (x10.length : Int) then (if x12 < (x2.length : Int) then ((impl_field_add.f k x0 x7 (rd_L1 x2 x12) (rd x10 x12)).bind fun t1006 => (impl_field_sum.l0 k x0 x2 t1006 x10 x11 (wrap64 (x12 + 1)))) else (none)) else (none)) else (none)) else (some x7)
def impl_field_sum.f (k : Nat) (a0 : Int) (l1 : List Int) (l2 : List (List Int)) : Option (List Int) := impl_field_sum.l0 k a0 l2 ([] : List Int) l1 (l1.length : Int) 0
theorem impl_field_sum.mono_l : ∀ k, (∀ y0 y1 y2 y3 y4 y5, LeO (impl_field_sum.l0 k y0 y1 y2 y3 y4 y5) (impl_field_sum.l0 (k + 1) y0 y1 y2 y3 y4 y5))
 | 0 => fun _ _ _ _ _ _ r h => by simp [impl_field_sum.l0] at h
 | k + 1 => by
  have ih0 := impl_field_sum.mono_l k
  ·intro y0 y1 y2 y3 y4 y5
   unfold impl_field_sum.l0
   repeat' first
   | (with_reducible exact ih0 _ _ _ _ _ _)
   | (with_reducible exact impl_field_add.mono _ _ _ _ _)
   | (with_reducible exact LeO.refl _)
   | (with_reducible exact LeO.none _)
   | (with_reducible refine LeO.ite ?_ ?_)
   | (with_reducible refine LeO.bind ?_ (fun _ => ?_))
   | exact ih0 _ _ _ _ _ _
   | exact impl_field_add.mono _ _ _ _ _
   | exact LeO.none _
   | refine LeO.ite ?_ ?_
   | refine LeO.bind ?_ (fun _ => ?_)
theorem impl_field_sum.mono : ∀ a0 a1 a2 k, LeO (impl_field_sum.f k a0 a1 a2) (impl_field_sum.f (k + 1) a0 a1 a2) := by
 intro a0 a1 a2 k
 have ih0 := impl_field_sum.mono_l k
 unfold impl_field_sum.f
 repeat' first
   | (with_reducible exact ih0 _ _ _ _ _ _)
   | (with_reducible exact impl_field_add.mono _ _ _ _ _)
   | (with_reducible exact LeO.refl _)
   | (with_reducible exact LeO.none _)
   | (with_reducible refine LeO.ite ?_ ?_)
   | (with_reducible refine LeO.bind ?_ (fun _ => ?_))
   | exact ih0 _ _ _ _ _ _
   | exact impl_field_add.mono _ _ _ _ _
   | exact LeO.none _
   | refine LeO.ite ?_ ?_
   | refine LeO.bind ?_ (fun _ => ?_)
set_option maxHeartbeats 8000000 in
set_option maxRecDepth 100000 in
theorem impl_field_sum.calls (k : Nat) (a0 : Int) (A1 : Option Addr) (c1 : Nat) (l1 : List Int) (A2 : Option Addr) (c2 : Nat) (l2 : List (List Int)) (r : List Int) (w : World) (hr1 : Kd.C (Kd.int .i64) w A1 l1.length l1) (hc1 : l1.length ≤ c1) (hr2 : Kd.C (Kd.slice 2 (Kd.int .i64)) w A2 l2.length l2) (hc2 : l2.length ≤ c2) (h : impl_field_sum.f k a0 l1 l2 = some r) :
  Calls Try.prog 82 #[.int .i64 a0, .slice A1 l1.length c1, .slice A2 l2.length c2] w fun e w' => ∃ v0_ : Value, e = .returned (v0_) ∧ Kd.R (Kd.int .i64) 2 w' w.heap.size (fun _ => True) v0_ r ∧ Below w.heap.size w w' := by
 have HR1 := Aside0.mk hr1
 have HC1 := Aside0.mk hc1
 clear hr1 hc1
 have HR2 := Aside0.mk hr2
 have HC2 := Aside0.mk hc2
 clear hr2 hc2
 have HB := Aside0.mk (Below.refl w.heap.size w)
 have H : (impl_field_sum.l0 k a0 l2 ([] : List Int) l1 (l1.length : Int) 0) = some r := h
 clear h
 have H' := Aside0.mk H
 clear H
 go_enter Try.func82, Try.ntmps82
 go_wp2
 go_loopg [7, 12] k (fun kq v7 v12 w' => ∃ (x7_1 : List Int) (x12_1 : Int), v12 = .int .i64 x12_1 ∧ Aside0 (impl_field_sum.l0 kq a0 l2 x7_1 l1 (l1.length : Int) x12_1 = some r) ∧ Aside0 (kq ≤ k) ∧ Aside0 (Kd.R (Kd.int .i64) 2 w' w.heap.size (fun _ => True) v7 x7_1) ∧ Aside0 (Below w.heap.size w w'))
 case atStart => exact ⟨(([] : List Int)), (0), (by first | rfl | (simp; done) | (simp [*]; done)), H', ⟨Nat.le_refl _⟩, ⟨by first | exact Kd.R_nil _ _ _ _ _ | exact Kd.N_nil _ _ _ _ _ | exact Kd.V_nil _ _ _ _ _ | exact Kd.Q_nil _ _ _ _ _ | exact Kd.S_nil _ _ _ _ _⟩, ⟨ZB⟩⟩
 case round =>
  clear H'
  try clear c1
  try clear c2
  try clear p2
  obtain ⟨x7_1, x12_1, rfl, HA, HK1, HO_7, HB⟩ := hrel
  cases gk with
  | zero => exact absurd HA.out (by simp [impl_field_sum.l0])
  | succ k1 =>
   have H := HA.out
   clear HA
   simp only [impl_field_sum.l0] at H
   by_cases c4 : x12_1 < (l1.length : Int)
   ·rw [if_pos c4] at H
    have c4b0 : decide (x12_1 < (l1.length : Int)) = true := decide_eq_true c4
    clear c4
    by_cases c5 : 0 ≤ x12_1
    ·rw [if_pos c5] at H
     have c5b0 : decide (0 ≤ x12_1) = true := decide_eq_true c5
     clear c5
     by_cases c6 : x12_1 < (l1.length : Int)
     ·rw [if_pos c6] at H
      have c6b0 : decide (x12_1 < (l1.length : Int)) = true := decide_eq_true c6
      clear c6
      by_cases c7 : x12_1 < (l2.length : Int)
      ·rw [if_pos c7] at H
       have c7b0 : decide (x12_1 < (l2.length : Int)) = true := decide_eq_true c7
       clear c7
       replace H := Option.bind_eq_some_iff.mp H
       obtain ⟨t1006, A80, H⟩ := H
       replace H : (impl_field_sum.l0 k1 a0 l2 t1006 l1 (l1.length : Int) (wrap64 (x12_1 + 1))) = some r := H
       have A8 := Aside0.mk A80
       clear A80
       have H' := Aside0.mk H
       clear H
       have p1004 : 0 ≤ (x12_1 : Int) := of_decide_eq_true (by first | (with_reducible assumption) | assumption)
       have q1004 : x12_1 < (l1.length : Int) := of_decide_eq_true (by first | (with_reducible assumption) | assumption)
       obtain ⟨ad1004, e1004, hx1004_0⟩ := Kd.at_int HR1.out x12_1 p1004 q1004
       cases e1004
       replace hx1004_0 := (HB.out.cell (World.block_lt_of_cell? w _ hx1004_0)).trans hx1004_0
       replace p1004 := eq_true p1004
       replace q1004 := eq_true q1004
       have p1005 : 0 ≤ (x12_1 : Int) := of_decide_eq_true (by first | (with_reducible assumption) | assumption)
       have q1005 : x12_1 < (l2.length : Int) := of_decide_eq_true (by first | (with_reducible assumption) | assumption)
       obtain ⟨ad1005, A1005_0, c1005_0, e1005, hx1005_0, hl1005_0, hi1005_0⟩ := at_L1 HR2.out x12_1 p1005 q1005
       cases e1005
       replace hx1005_0 := (HB.out.cell (World.block_lt_of_cell? w _ hx1005_0)).trans hx1005_0
       have HR1005_0 := Aside0.mk hi1005_0
       have HC1005_0 := Aside0.mk hl1005_0
       clear hi1005_0 hl1005_0
       replace p1005 := eq_true p1005
       replace q1005 := eq_true q1005
       obtain ⟨Ao9, co9, eo9⟩ := Kd.R_slice HO_7.out
       subst eo9
       go_wp2_with (first | ((with_reducible refine gate_callee (f := 107) rfl ?_); refine goesL_ (some 24) rfl rfl Try.func107 (by kernel_rfl) rfl #[.int .i64 a0, .slice Ao9 x7_1.length co9, .slice A1005_0 (rd_L1 l2 x12_1).length c1005_0, .int .i64 (rd l1 x12_1)] rfl ZA ?_; (with_reducible refine (impl_field_add.calls k1 a0 _ _ x7_1 _ _ (rd_L1 l2 x12_1) (rd l1 x12_1) t1006 _ ?side1 ?side2 ?side3 ?side4 A8.out).mono ?_); (case side1 => repeat (first | exact (Kd.R_reads' HO_7.out).2.2 | (with_reducible refine Kd.C_alloc ?_ _) | (with_reducible refine Kd.C_drewN ?_ _) | (with_reducible refine Kd.C_drew ?_))); (case side2 => exact (Kd.R_reads' HO_7.out).2.1); (case side3 => exact ZC HR1005_0); (case side4 => exact HC1005_0.out); rintro e w10 ⟨v1007, rfl, ho0, hb⟩; refine ⟨_, rfl, ?_⟩; have n0_ := Aside0.mk (Kd.R_elder' (ZR HO_7) (Kd.R_base ho0) hb); have n1_ := Aside0.mk (Kd.R_lower (Kd.R_new' ho0 (Kd.R_lt (ZR HO_7))) (below_size ZB)); have n2_ := Aside0.mk (below_step ZB hb); clear HO_7; clear HB; have HO_7 := n0_; have HO1008 := n1_; have HB := n2_; clear n0_ n1_ n2_; (try clear hb); (try clear hb2); (try clear hk); (try clear hi); (try clear ho0)))
       go_roundg k1
       case measure => have := HK1.out; omega
       case rel => exact ⟨(t1006), (wrap64 (x12_1 + 1)), (by first | rfl | (simp; done) | (simp [*]; done)), H', ⟨by have := HK1.out; omega⟩, ⟨by refine ZQ ?_; exact Kd.R_mono HO1008.out (fun _ hk => trivial)⟩, ⟨ZB⟩⟩
      ·rw [if_neg c7] at H
       exact absurd H (by simp)
     ·rw [if_neg c6] at H
      exact absurd H (by simp)
    ·rw [if_neg c5] at H
     exact absurd H (by simp)
   ·rw [if_neg c4] at H
    have c4b0 : decide (x12_1 < (l1.length : Int)) = false := decide_eq_false c4
    clear c4
    obtain rfl := Option.some.inj H
    go_wp2
    go_ret
    exact ⟨_, by first | rfl | (simp [errW_none, errW_some] <;> rfl) | (simp [*, errW_none, errW_some] <;> rfl), by refine ZQ ?_; exact HO_7.out, ZB⟩

end Go.Proofs.Ytaclapojgdekpaa.X
