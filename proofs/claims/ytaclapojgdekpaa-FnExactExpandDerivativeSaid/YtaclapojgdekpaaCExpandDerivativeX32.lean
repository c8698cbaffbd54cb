/- Contracts of functions that the law reaches, printed by a program of this session; Lean checks them. -/
import Derived.Test.YtaclapojgdekpaaCExpandDerivativeX0
import Derived.Test.YtaclapojgdekpaaCExpandDerivativeX10
import Derived.Test.YtaclapojgdekpaaCExpandDerivativeX17
import Derived.Test.YtaclapojgdekpaaCExpandDerivativeX18
import Derived.Test.YtaclapojgdekpaaCExpandDerivativeX19
import Derived.Test.YtaclapojgdekpaaCExpandDerivativeX5
import Derived.Test.YtaclapojgdekpaaCExpandDerivativeX7
import Derived.Test.YtaclapojgdekpaaCExpandDerivativeXZ
namespace Go.Proofs.Ytaclapojgdekpaa.X
open Go.RowKit Go.Proofs.YtaclapojgdekpaaW.PrintWords Go.Proofs.YtaclapojgdekpaaW.PrintLast Go.Proofs.YtaclapojgdekpaaW.PrintMore
attribute [local go_sem] max2_int min2_int max_two min_two max_three min_three max_four min_four   -- for this text's walks alone
set_option linter.unusedVariables false
set_option linter.unusedSimpArgs false

/-! ### impl_field_derivative: function 87 -/
def impl_field_derivative.l0 : Nat → Int → List Int → List Int → Int → Option (List Int)
 | 0, _, _, _, _ => none
 | k + 1, x0, x1, x5, x6 => if x6 < (x1.length : Int) then (if 0 ≤ x6 then ((impl_field_mul.f x0 x6 (rd x1 x6)).bind fun t1092 => (if x5.length < 17592186044416 then (impl_field_derivative.l0 k x0 x1 (x5 ++ [t1092]) (wrap64 (x6 + 1))) else (none))) else (none)) else ((impl_trimmed.f k x5).bind fun t1096 => (some t1096))
def impl_field_derivative.f (k : Nat) (a0 : Int) (l1 : List Int) : Option (List Int) := impl_field_derivative.l0 k a0 l1 ([] : List Int) 1
theorem impl_field_derivative.mono_l : ∀ k, (∀ y0 y1 y2 y3, LeO (impl_field_derivative.l0 k y0 y1 y2 y3) (impl_field_derivative.l0 (k + 1) y0 y1 y2 y3))
 | 0 => fun _ _ _ _ r h => by simp [impl_field_derivative.l0] at h
 | k + 1 => by
  have ih0 := impl_field_derivative.mono_l k
  ·intro y0 y1 y2 y3
   unfold impl_field_derivative.l0
   repeat' first
   | (with_reducible exact ih0 _ _ _ _)
   | (with_reducible exact impl_trimmed.mono _ _)
   | (with_reducible exact LeO.refl _)
   | (with_reducible exact LeO.none _)
   | (with_reducible refine LeO.ite ?_ ?_)
   | (with_reducible refine LeO.bind ?_ (fun _ => ?_))
   | exact ih0 _ _ _ _
   | exact impl_trimmed.mono _ _
   | exact LeO.none _
   | refine LeO.ite ?_ ?_
   | refine LeO.bind ?_ (fun _ => ?_)
theorem impl_field_derivative.mono : ∀ a0 a1 k, LeO (impl_field_derivative.f k a0 a1) (impl_field_derivative.f (k + 1) a0 a1) := by
 intro a0 a1 k
 have ih0 := impl_field_derivative.mono_l k
 unfold impl_field_derivative.f
 repeat' first
   | (with_reducible exact ih0 _ _ _ _)
   | (with_reducible exact impl_trimmed.mono _ _)
   | (with_reducible exact LeO.refl _)
   | (with_reducible exact LeO.none _)
   | (with_reducible refine LeO.ite ?_ ?_)
   | (with_reducible refine LeO.bind ?_ (fun _ => ?_))
   | exact ih0 _ _ _ _
   | exact impl_trimmed.mono _ _
   | exact LeO.none _
   | refine LeO.ite ?_ ?_
   | refine LeO.bind ?_ (fun _ => ?_)
set_option maxHeartbeats 8000000 in
set_option maxRecDepth 100000 in
theorem impl_field_derivative.calls (k : Nat) (a0 : Int) (A1 : Option Addr) (c1 : Nat) (l1 : List Int) (r : List Int) (w : World) (hr1 : Kd.C (Kd.int .i64) w A1 l1.length l1) (hc1 : l1.length ≤ c1) (h : impl_field_derivative.f k a0 l1 = some r) :
  Calls Try.prog 87 #[.int .i64 a0, .slice A1 l1.length c1] w fun e w' => ∃ v0_ : Value, e = .returned (v0_) ∧ Kd.R (Kd.int .i64) 2 w' w.heap.size (fun _ => True) v0_ r ∧ Below w.heap.size w w' := by
 have HR1 := Aside0.mk hr1
 have HC1 := Aside0.mk hc1
 clear hr1 hc1
 have HB := Aside0.mk (Below.refl w.heap.size w)
 have H : (impl_field_derivative.l0 k a0 l1 ([] : List Int) 1) = some r := h
 clear h
 have H' := Aside0.mk H
 clear H
 go_enter Try.func87, Try.ntmps87
 go_wp2
 go_loopg [5, 6] k (fun kq v5 v6 w' => ∃ (x5_1 : List Int) (x6_1 : Int), v6 = .int .i64 x6_1 ∧ Aside0 (impl_field_derivative.l0 kq a0 l1 x5_1 x6_1 = some r) ∧ Aside0 (kq ≤ k) ∧ Aside0 (Kd.R (Kd.int .i64) 2 w' w.heap.size (fun _ => True) v5 x5_1) ∧ Aside0 (Below w.heap.size w w'))
 case atStart => exact ⟨(([] : List Int)), (1), (by first | rfl | (simp; done) | (simp [*]; done)), H', ⟨Nat.le_refl _⟩, ⟨by first | exact Kd.R_nil _ _ _ _ _ | exact Kd.N_nil _ _ _ _ _ | exact Kd.V_nil _ _ _ _ _ | exact Kd.Q_nil _ _ _ _ _ | exact Kd.S_nil _ _ _ _ _⟩, ⟨ZB⟩⟩
 case round =>
  clear H'
  try clear c1
  try clear p2
  obtain ⟨x5_1, x6_1, rfl, HA, HK1, HO_5, HB⟩ := hrel
  cases gk with
  | zero => exact absurd HA.out (by simp [impl_field_derivative.l0])
  | succ k1 =>
   have H := HA.out
   clear HA
   simp only [impl_field_derivative.l0] at H
   by_cases c3 : x6_1 < (l1.length : Int)
   ·rw [if_pos c3] at H
    have c3b0 : decide (x6_1 < (l1.length : Int)) = true := decide_eq_true c3
    clear c3
    by_cases c4 : 0 ≤ x6_1
    ·rw [if_pos c4] at H
     have c4b0 : decide (0 ≤ x6_1) = true := decide_eq_true c4
     clear c4
     replace H := Option.bind_eq_some_iff.mp H
     obtain ⟨t1092, A50, H⟩ := H
     replace H : (if x5_1.length < 17592186044416 then (impl_field_derivative.l0 k1 a0 l1 (x5_1 ++ [t1092]) (wrap64 (x6_1 + 1))) else (none)) = some r := H
     have A5 := Aside0.mk A50
     clear A50
     by_cases c6 : x5_1.length < 17592186044416
     ·rw [if_pos c6] at H
      have LMc6 := Aside0.mk c6
      clear c6
      obtain ⟨y1093, hy1093⟩ : ∃ y_ : List Int, y_ = (x5_1 ++ [t1092]) := ⟨_, rfl⟩
      replace H : (impl_field_derivative.l0 k1 a0 l1 y1093 (wrap64 (x6_1 + 1))) = some r := by first | (rw [hy1093]; with_reducible exact H) | (have H2_ := (Option.bind_some _ _).symm.trans H; rw [hy1093]; with_reducible exact H2_) | (have H2_ := (Option.bind_some _ _).symm.trans H; with_reducible exact H2_) | with_reducible exact H | (rw [hy1093]; exact H) | exact H
      have Ny1093 := Aside0.mk hy1093
      clear hy1093
      have H' := Aside0.mk H
      clear H
      have p1091 : 0 ≤ (x6_1 : Int) := of_decide_eq_true (by first | (with_reducible assumption) | assumption)
      have q1091 : x6_1 < (l1.length : Int) := of_decide_eq_true (by first | (with_reducible assumption) | assumption)
      obtain ⟨ad1091, e1091, hx1091_0⟩ := Kd.at_int HR1.out x6_1 p1091 q1091
      cases e1091
      replace hx1091_0 := (HB.out.cell (World.block_lt_of_cell? w _ hx1091_0)).trans hx1091_0
      replace p1091 := eq_true p1091
      replace q1091 := eq_true q1091
      go_wp2_with (first | ((with_reducible refine gate_callee (f := 101) rfl ?_); refine goesL_ (some 20) rfl rfl Try.func101 (by kernel_rfl) rfl #[.int .i64 a0, .int .i64 x6_1, .int .i64 (rd l1 x6_1)] rfl ZA ?_; (with_reducible refine (impl_field_mul.calls a0 x6_1 (rd l1 x6_1) t1092 _ A5.out).mono ?_); rintro e w' ⟨rfl, ⟨nd, rfl⟩⟩; refine ⟨_, rfl, ?_⟩) | ((with_reducible refine gate_builtin (b := .append) (xs := #[.tmp 13, .tmp 21]) rfl ?_); at_builtin; refine Kd.R_append (Kd.int .i64) (w0 := w) w.heap.size rfl (.tmp 13) (.tmp 21) 22 2 (.int .i64 0) 8 rfl Try.underlying22 info2 rfl (by decide) (by omega) u5 x5_1 t1092 [.int .i64 t1092] (fun _ => True) (fun _ => False) rfl rfl ?aP (fun _ hk => hk.elim) ?aF ?aO ?aB ?aS ?aL ?_; (case aP => exact rfl); (case aB => exact ZB); (case aF => exact (fun _ _ => trivial)); (case aO => exact (ZR HO_5)); (case aS => exact (below_size ZB)); (case aL => have := LMc6.out; omega); intro v1094 w7 ho hb hg hat; rw [← Ny1093.out] at ho; have n0_ := Aside0.mk (hb); have n1_ := Aside0.mk (ho); clear HB; clear HO_5; have HB := n0_; have HO1095 := n1_; clear n0_ n1_; clear ho hb hg hat))
      go_roundg k1
      case measure => have := HK1.out; omega
      case rel => exact ⟨(y1093), (wrap64 (x6_1 + 1)), (by first | rfl | (simp; done) | (simp [*]; done)), H', ⟨by have := HK1.out; omega⟩, ⟨ZR HO1095⟩, ⟨ZB⟩⟩
     ·rw [if_neg c6] at H
      exact absurd H (by simp)
    ·rw [if_neg c4] at H
     exact absurd H (by simp)
   ·rw [if_neg c3] at H
    have c3b0 : decide (x6_1 < (l1.length : Int)) = false := decide_eq_false c3
    clear c3
    replace H := Option.bind_eq_some_iff.mp H
    obtain ⟨t1096, A80, H⟩ := H
    replace H : (some t1096) = some r := H
    have A8 := Aside0.mk A80
    clear A80
    obtain rfl := Option.some.inj H
    obtain ⟨Ao9, co9, eo9⟩ := Kd.R_slice HO_5.out
    subst eo9
    go_wp2_with (first | ((with_reducible refine gate_callee (f := 111) rfl ?_); refine goesL_ (some 24) rfl rfl Try.func111 (by kernel_rfl) rfl #[.slice Ao9 x5_1.length co9] rfl ZA ?_; (with_reducible refine (impl_trimmed.calls k1 (fun k_ => some k_ = (.slice Ao9 x5_1.length co9 : Value).ownBlock) (.slice Ao9 x5_1.length co9) x5_1 t1096 w _ ?side1 ?side2 A8.out).mono ?_); (case side1 => repeat (first | (with_reducible first | exact HB.out | apply below_alloc | apply pw_below_drewN | apply below_drew1) | exact HB.out)); (case side2 => exact Kd.R_tight rfl HO_5.out); rintro e w10 ⟨v1097, rfl, ho0, hb, hkp⟩; refine ⟨_, rfl, ?_⟩; have n0_ := Aside0.mk (Kd.R_mono (ok' := fun k_ => True) ho0 (fun k_ hk_ => trivial)); have n1_ := Aside0.mk (hb); clear HB; clear HO_5; have HO1098 := n0_; have HB := n1_; clear n0_ n1_; (try clear hb); (try clear hkp); (try clear ho0)))
    go_ret
    exact ⟨_, by first | rfl | (simp [errW_none, errW_some] <;> rfl) | (simp [*, errW_none, errW_some] <;> rfl), by refine ZQ ?_; exact HO1098.out, ZB⟩

/-! ### impl_ExpandDerivative: function 43 -/
def impl_ExpandDerivative.f (k : Nat) (a0_0 : Int) (l0_1 : List Int) (l0_2 : List Int) (a1 : Int) : Option (List Int × Int) := (impl_Jacobi_size.f a0_0 l0_1 l0_2).bind fun t1100 => ((impl_within.f a1 0 t1100).bind fun t1101 => ((impl_jacobiCode.f k a0_0 l0_1 l0_2 t1101).bind fun t1102 => (if t1102 = 0 then ((impl_Jacobi_field.f a0_0 l0_1 l0_2).bind fun t1103 => ((impl_Jacobi_polys.f k a0_0 l0_1 l0_2).bind fun t1104 => (if 0 ≤ a1 then (if a1 < (t1104.length : Int) then ((impl_field_derivative.f k t1103 (rd_L1 t1104 a1)).bind fun t1108 => ((impl_field_expand.f k t1103 t1108 t1104).bind fun t1111 => (some (t1111, 0)))) else (none)) else (none)))) else (some (([] : List Int), t1102)))))
theorem impl_ExpandDerivative.mono : ∀ a0 a1 a2 a3 k, LeO (impl_ExpandDerivative.f k a0 a1 a2 a3) (impl_ExpandDerivative.f (k + 1) a0 a1 a2 a3) := by
 intro a0 a1 a2 a3 k
 unfold impl_ExpandDerivative.f
 repeat' first
   | (with_reducible exact impl_Jacobi_polys.mono _ _ _ _)
   | (with_reducible exact impl_field_derivative.mono _ _ _)
   | (with_reducible exact impl_field_expand.mono _ _ _ _)
   | (with_reducible exact impl_jacobiCode.mono _ _ _ _ _)
   | (with_reducible exact LeO.refl _)
   | (with_reducible exact LeO.none _)
   | (with_reducible refine LeO.ite ?_ ?_)
   | (with_reducible refine LeO.bind ?_ (fun _ => ?_))
   | exact impl_Jacobi_polys.mono _ _ _ _
   | exact impl_field_derivative.mono _ _ _
   | exact impl_field_expand.mono _ _ _ _
   | exact impl_jacobiCode.mono _ _ _ _ _
   | exact LeO.none _
   | refine LeO.ite ?_ ?_
   | refine LeO.bind ?_ (fun _ => ?_)
set_option maxHeartbeats 8000000 in
set_option maxRecDepth 100000 in
theorem impl_ExpandDerivative.calls (k : Nat) (a0_0 : Int) (A0_1 : Option Addr) (c0_1 : Nat) (l0_1 : List Int) (A0_2 : Option Addr) (c0_2 : Nat) (l0_2 : List Int) (a1 : Int) (r1 : List Int) (r2 : Int) (w : World) (hr0_1 : Kd.C (Kd.int .i64) w A0_1 l0_1.length l0_1) (hc0_1 : l0_1.length ≤ c0_1) (hr0_2 : Kd.C (Kd.int .i64) w A0_2 l0_2.length l0_2) (hc0_2 : l0_2.length ≤ c0_2) (h : impl_ExpandDerivative.f k a0_0 l0_1 l0_2 a1 = some (r1, r2)) :
  Calls Try.prog 43 #[.agg #[.int .i64 a0_0, .slice A0_1 l0_1.length c0_1, .slice A0_2 l0_2.length c0_2], .int .i64 a1] w fun e w' => ∃ v0_ : Value, e = .returned (.tuple #[v0_, .int .i64 r2]) ∧ Kd.R (Kd.int .i64) 2 w' w.heap.size (fun _ => True) v0_ r1 ∧ Below w.heap.size w w' := by
 have hu29 := Try.underlying29
 have HR0_1 := Aside0.mk hr0_1
 have HC0_1 := Aside0.mk hc0_1
 clear hr0_1 hc0_1
 have HR0_2 := Aside0.mk hr0_2
 have HC0_2 := Aside0.mk hc0_2
 clear hr0_2 hc0_2
 have HB := Aside0.mk (Below.refl w.heap.size w)
 have H : ((impl_Jacobi_size.f a0_0 l0_1 l0_2).bind fun t1100 => ((impl_within.f a1 0 t1100).bind fun t1101 => ((impl_jacobiCode.f k a0_0 l0_1 l0_2 t1101).bind fun t1102 => (if t1102 = 0 then ((impl_Jacobi_field.f a0_0 l0_1 l0_2).bind fun t1103 => ((impl_Jacobi_polys.f k a0_0 l0_1 l0_2).bind fun t1104 => (if 0 ≤ a1 then (if a1 < (t1104.length : Int) then ((impl_field_derivative.f k t1103 (rd_L1 t1104 a1)).bind fun t1108 => ((impl_field_expand.f k t1103 t1108 t1104).bind fun t1111 => (some (t1111, 0)))) else (none)) else (none)))) else (some (([] : List Int), t1102)))))) = some (r1, r2) := h
 clear h
 replace H := Option.bind_eq_some_iff.mp H
 obtain ⟨t1100, A30, H⟩ := H
 replace H : ((impl_within.f a1 0 t1100).bind fun t1101 => ((impl_jacobiCode.f k a0_0 l0_1 l0_2 t1101).bind fun t1102 => (if t1102 = 0 then ((impl_Jacobi_field.f a0_0 l0_1 l0_2).bind fun t1103 => ((impl_Jacobi_polys.f k a0_0 l0_1 l0_2).bind fun t1104 => (if 0 ≤ a1 then (if a1 < (t1104.length : Int) then ((impl_field_derivative.f k t1103 (rd_L1 t1104 a1)).bind fun t1108 => ((impl_field_expand.f k t1103 t1108 t1104).bind fun t1111 => (some (t1111, 0)))) else (none)) else (none)))) else (some (([] : List Int), t1102))))) = some (r1, r2) := H
 have A3 := Aside0.mk A30
 clear A30
 replace H := Option.bind_eq_some_iff.mp H
 obtain ⟨t1101, A40, H⟩ := H
 replace H : ((impl_jacobiCode.f k a0_0 l0_1 l0_2 t1101).bind fun t1102 => (if t1102 = 0 then ((impl_Jacobi_field.f a0_0 l0_1 l0_2).bind fun t1103 => ((impl_Jacobi_polys.f k a0_0 l0_1 l0_2).bind fun t1104 => (if 0 ≤ a1 then (if a1 < (t1104.length : Int) then ((impl_field_derivative.f k t1103 (rd_L1 t1104 a1)).bind fun t1108 => ((impl_field_expand.f k t1103 t1108 t1104).bind fun t1111 => (some (t1111, 0)))) else (none)) else (none)))) else (some (([] : List Int), t1102)))) = some (r1, r2) := H
 have A4 := Aside0.mk A40
 clear A40
 replace H := Option.bind_eq_some_iff.mp H
 obtain ⟨t1102, A50, H⟩ := H
 replace H : (if t1102 = 0 then ((impl_Jacobi_field.f a0_0 l0_1 l0_2).bind fun t1103 => ((impl_Jacobi_polys.f k a0_0 l0_1 l0_2).bind fun t1104 => (if 0 ≤ a1 then (if a1 < (t1104.length : Int) then ((impl_field_derivative.f k t1103 (rd_L1 t1104 a1)).bind fun t1108 => ((impl_field_expand.f k t1103 t1108 t1104).bind fun t1111 => (some (t1111, 0)))) else (none)) else (none)))) else (some (([] : List Int), t1102))) = some (r1, r2) := H
 have A5 := Aside0.mk A50
 clear A50
 by_cases c6 : t1102 = 0
 ·rw [if_pos c6] at H
  have c6b0 : (t1102 == 0) = true := beq_iff_eq.mpr c6
  have c6b1 : (t1102 != 0) = false := bne_eq_false_iff_eq.mpr c6
  clear c6
  replace H := Option.bind_eq_some_iff.mp H
  obtain ⟨t1103, A70, H⟩ := H
  replace H : ((impl_Jacobi_polys.f k a0_0 l0_1 l0_2).bind fun t1104 => (if 0 ≤ a1 then (if a1 < (t1104.length : Int) then ((impl_field_derivative.f k t1103 (rd_L1 t1104 a1)).bind fun t1108 => ((impl_field_expand.f k t1103 t1108 t1104).bind fun t1111 => (some (t1111, 0)))) else (none)) else (none))) = some (r1, r2) := H
  have A7 := Aside0.mk A70
  clear A70
  replace H := Option.bind_eq_some_iff.mp H
  obtain ⟨t1104, A80, H⟩ := H
  replace H : (if 0 ≤ a1 then (if a1 < (t1104.length : Int) then ((impl_field_derivative.f k t1103 (rd_L1 t1104 a1)).bind fun t1108 => ((impl_field_expand.f k t1103 t1108 t1104).bind fun t1111 => (some (t1111, 0)))) else (none)) else (none)) = some (r1, r2) := H
  have A8 := Aside0.mk A80
  clear A80
  by_cases c9 : 0 ≤ a1
  ·rw [if_pos c9] at H
   have c9b0 : decide (0 ≤ a1) = true := decide_eq_true c9
   clear c9
   by_cases c10 : a1 < (t1104.length : Int)
   ·rw [if_pos c10] at H
    have c10b0 : decide (a1 < (t1104.length : Int)) = true := decide_eq_true c10
    clear c10
    replace H := Option.bind_eq_some_iff.mp H
    obtain ⟨t1108, A110, H⟩ := H
    replace H : ((impl_field_expand.f k t1103 t1108 t1104).bind fun t1111 => (some (t1111, 0))) = some (r1, r2) := H
    have A11 := Aside0.mk A110
    clear A110
    replace H := Option.bind_eq_some_iff.mp H
    obtain ⟨t1111, A120, H⟩ := H
    replace H : (some (t1111, 0)) = some (r1, r2) := H
    have A12 := Aside0.mk A120
    clear A120
    simp only [Option.some.injEq, Prod.mk.injEq] at H
    obtain ⟨rfl, rfl⟩ := H
    go_enter Try.func43, Try.ntmps43
    try go_wp2_with (first | ((with_reducible refine gate_dst (N := 2) rfl ?_); refine box_event ?hg (N := 2) ?hd (cs := #[.int .i64 a0_0, .slice A0_1 l0_1.length c0_1, .slice A0_2 l0_2.length c0_2]) (t := 29) ?hr ?_; (case hd => rfl); (case hg => rfl); (case hr => first | (go_simp; done) | (go_simp; rfl)); intro gb1099 hg w13 hbox hb; have n0_ := Aside0.mk (below_step ZB hb); have n1_ := Aside0.mk (hbox); have n2_ := Aside0.mk ((ZG hg : w.heap.size ≤ gb1099)); have n3_ := Aside0.mk ((ZG hg : w.heap.size ≤ gb1099)); clear HB; have HB := n0_; have BK1099 := n1_; have GW1099 := n2_; have GE1099 := n3_; clear n0_ n1_ n2_ n3_; clear hb hbox hg))
    have n0_ := Aside0.mk (blk_drew BK1099.out)
    have n1_ := Aside0.mk (below_drew1 HB.out)
    clear BK1099
    clear HB
    have BK1099 := n0_
    have HB := n1_
    clear n0_ n1_
    refine start_ (n := 7) (S := fun w' => w'.cell? ⟨gb1099, 0, none⟩ = some (.int .i64 a0_0) ∧ w'.cell? ⟨gb1099, 1, none⟩ = some (.slice A0_1 l0_1.length c0_1) ∧ w'.cell? ⟨gb1099, 2, none⟩ = some (.slice A0_2 l0_2.length c0_2)) (ds := []) #[false, false, false, false, false, false, false] (by kernel_rfl) rfl rfl ⟨(blk_cell BK1099.out 0).trans rfl, (blk_cell BK1099.out 1).trans rfl, (blk_cell BK1099.out 2).trans rfl⟩ (fun hHeld => ?_)
    generalize w13.drew = w14 at BK1099 HB hHeld ⊢
    refine Zp 1 (some 10) (h := ?_)
    refine Zt3 0 (some 9) hHeld (h := ?_)
    refine Zt3 2 (some 11) hHeld (h := ?_)
    refine one_ (i := 3) (N := some 12) #[true, true, true, true, false, false, false] rfl rfl (by kernel_rfl) (by decide) (fun K hK => ?_)
    refine goes_ Try.func59 (by kernel_rfl) rfl #[.agg #[.int .i64 a0_0, .slice A0_1 l0_1.length c0_1, .slice A0_2 l0_2.length c0_2]] (by rfl) rfl rfl ZA ?_
    with_reducible refine (impl_Jacobi_size.calls a0_0 _ _ l0_1 _ _ l0_2 t1100 _ ?side1 ?side2 ?side3 ?side4 A3.out).mono ?_
    (case side1 => exact ZC HR0_1)
    (case side2 => exact HC0_1.out)
    (case side3 => exact ZC HR0_2)
    (case side4 => exact HC0_2.out)
    rintro e w15 ⟨rfl, hb⟩
    refine ⟨_, rfl, ?_⟩
    have n0_ := ZL BK1099 hb
    have n1_ := Aside0.mk (below_step ZB hb)
    clear BK1099
    clear HB
    have BK1099 := n0_
    have HB := n1_
    clear n0_ n1_
    (try clear hb)
    (try clear hb2)
    (try clear hk)
    (try clear hi)
    refine hK.out _ _ ⟨(blk_cell BK1099.out 0).trans rfl, (blk_cell BK1099.out 1).trans rfl, (blk_cell BK1099.out 2).trans rfl⟩ (fun hHeld => ?_)
    clear hK K
    refine norm_ (a' := ?_) ?_ ?_
    rotate_left
    ·show Act.put _ (some 12) _ = _
     simp only [Act.put, List.setIfInBounds_toArray, List.set_cons_zero, List.set_cons_succ, i64_w, i32_w]
     rfl
    refine one_ (i := 4) (N := some 13) #[true, true, true, true, true, false, false] rfl rfl (by kernel_rfl) (by decide) (fun K hK => ?_)
    refine goes_ Try.func76 (by kernel_rfl) rfl #[.int .i64 a1, .int .i64 0, .int .i64 t1100] (by rfl) rfl rfl ZA ?_
    with_reducible refine (impl_within.calls a1 0 t1100 t1101 _ A4.out).mono ?_
    rintro e w' ⟨rfl, ⟨nd, rfl⟩⟩
    refine ⟨_, rfl, ?_⟩
    refine hK.out _ _ ⟨(blk_cell BK1099.out 0).trans rfl, (blk_cell BK1099.out 1).trans rfl, (blk_cell BK1099.out 2).trans rfl⟩ (fun hHeld => ?_)
    clear hK K
    refine norm_ (a' := ?_) ?_ ?_
    rotate_left
    ·show Act.put _ (some 13) _ = _
     simp only [Act.put, List.setIfInBounds_toArray, List.set_cons_zero, List.set_cons_succ, i64_w, i32_w]
     rfl
    refine one_ (i := 5) (N := some 14) #[true, true, true, true, true, true, false] rfl rfl (by kernel_rfl) (by decide) (fun K hK => ?_)
    refine goes_ Try.func58 (by kernel_rfl) rfl #[.agg #[.int .i64 a0_0, .slice A0_1 l0_1.length c0_1, .slice A0_2 l0_2.length c0_2], .bool t1101] (by rfl) rfl rfl ZA ?_
    with_reducible refine (impl_jacobiCode.calls k a0_0 _ _ l0_1 _ _ l0_2 t1101 t1102 _ ?side1 ?side2 ?side3 ?side4 A5.out).mono ?_
    (case side1 => exact ZE HR0_1)
    (case side2 => exact HC0_1.out)
    (case side3 => exact ZE HR0_2)
    (case side4 => exact HC0_2.out)
    rintro e w16 ⟨rfl, hb⟩
    refine ⟨_, rfl, ?_⟩
    have n0_ := ZL BK1099 hb
    have n1_ := Aside0.mk (below_step ZB hb)
    clear BK1099
    clear HB
    have BK1099 := n0_
    have HB := n1_
    clear n0_ n1_
    (try clear hb)
    (try clear hb2)
    (try clear hk)
    (try clear hi)
    refine hK.out _ _ ⟨(blk_cell BK1099.out 0).trans rfl, (blk_cell BK1099.out 1).trans rfl, (blk_cell BK1099.out 2).trans rfl⟩ (fun hHeld => ?_)
    clear hK K
    refine norm_ (a' := ?_) ?_ ?_
    rotate_left
    ·show Act.put _ (some 14) _ = _
     simp only [Act.put, List.setIfInBounds_toArray, List.set_cons_zero, List.set_cons_succ, i64_w, i32_w]
     rfl
    refine Zp 6 (some 6) (h := ?_)
    refine done_ (by kernel_rfl) ?_
    try go_wp2
    have n0_ := Aside0.mk (blk_drew BK1099.out)
    have n1_ := Aside0.mk (below_drew1 HB.out)
    clear BK1099
    clear HB
    have BK1099 := n0_
    have HB := n1_
    clear n0_ n1_
    refine start_ (n := 6) (S := fun w' => w'.cell? ⟨gb1099, 0, none⟩ = some (.int .i64 a0_0) ∧ w'.cell? ⟨gb1099, 1, none⟩ = some (.slice A0_1 l0_1.length c0_1) ∧ w'.cell? ⟨gb1099, 2, none⟩ = some (.slice A0_2 l0_2.length c0_2)) (ds := []) #[false, false, false, false, false, false] (by kernel_rfl) rfl rfl ⟨(blk_cell BK1099.out 0).trans rfl, (blk_cell BK1099.out 1).trans rfl, (blk_cell BK1099.out 2).trans rfl⟩ (fun hHeld => ?_)
    generalize w16.drew = w17 at BK1099 HB hHeld ⊢
    refine Zt3 0 (some 18) hHeld (h := ?_)
    refine Zt3 2 (some 20) hHeld (h := ?_)
    refine one_ (i := 1) (N := some 19) #[true, true, true, false, false, false] rfl rfl (by kernel_rfl) (by decide) (fun K hK => ?_)
    refine goes_ Try.func64 (by kernel_rfl) rfl #[.agg #[.int .i64 a0_0, .slice A0_1 l0_1.length c0_1, .slice A0_2 l0_2.length c0_2]] (by rfl) rfl rfl ZA ?_
    with_reducible refine (impl_Jacobi_field.calls a0_0 _ _ l0_1 _ _ l0_2 t1103 _ ?side1 ?side2 ?side3 ?side4 A7.out).mono ?_
    (case side1 => exact ZC HR0_1)
    (case side2 => exact HC0_1.out)
    (case side3 => exact ZC HR0_2)
    (case side4 => exact HC0_2.out)
    rintro e w18 ⟨rfl, hb⟩
    refine ⟨_, rfl, ?_⟩
    have n0_ := ZL BK1099 hb
    have n1_ := Aside0.mk (below_step ZB hb)
    clear BK1099
    clear HB
    have BK1099 := n0_
    have HB := n1_
    clear n0_ n1_
    (try clear hb)
    (try clear hb2)
    (try clear hk)
    (try clear hi)
    refine hK.out _ _ ⟨(blk_cell BK1099.out 0).trans rfl, (blk_cell BK1099.out 1).trans rfl, (blk_cell BK1099.out 2).trans rfl⟩ (fun hHeld => ?_)
    clear hK K
    refine norm_ (a' := ?_) ?_ ?_
    rotate_left
    ·show Act.put _ (some 19) _ = _
     simp only [Act.put, List.setIfInBounds_toArray, List.set_cons_zero, List.set_cons_succ, i64_w, i32_w]
     rfl
    refine one_ (i := 3) (N := some 21) #[true, true, true, true, false, false] rfl rfl (by kernel_rfl) (by decide) (fun K hK => ?_)
    refine goes_ Try.func73 (by kernel_rfl) rfl #[.agg #[.int .i64 a0_0, .slice A0_1 l0_1.length c0_1, .slice A0_2 l0_2.length c0_2]] (by rfl) rfl rfl ZA ?_
    with_reducible refine (impl_Jacobi_polys.calls k a0_0 _ _ l0_1 _ _ l0_2 t1104 _ ?side1 ?side2 ?side3 ?side4 A8.out).mono ?_
    (case side1 => exact ZC HR0_1)
    (case side2 => exact HC0_1.out)
    (case side3 => exact ZC HR0_2)
    (case side4 => exact HC0_2.out)
    rintro e w19 ⟨v1105, rfl, ho0, hb⟩
    refine ⟨_, rfl, ?_⟩
    have n0_ := Aside0.mk (Kd.N_lower (Kd.N_mono (ok' := fun k_ => k_ ≠ gb1099) ho0 (fun k_ hk_ => (Kd.freshB (ZK BK1099) k_ hk_))) (below_size ZB))
    have n1_ := ZL BK1099 hb
    have n2_ := Aside0.mk (below_step ZB hb)
    clear BK1099
    clear HB
    have HO1106 := n0_
    have BK1099 := n1_
    have HB := n2_
    clear n0_ n1_ n2_
    (try clear hb)
    (try clear hb2)
    (try clear hk)
    (try clear hi)
    (try clear ho0)
    refine hK.out _ _ ⟨(blk_cell BK1099.out 0).trans rfl, (blk_cell BK1099.out 1).trans rfl, (blk_cell BK1099.out 2).trans rfl⟩ (fun hHeld => ?_)
    clear hK K
    refine norm_ (a' := ?_) ?_ ?_
    rotate_left
    ·show Act.put _ (some 21) _ = _
     simp only [Act.put, List.setIfInBounds_toArray, List.set_cons_zero, List.set_cons_succ, i64_w, i32_w]
     rfl
    refine Zp 4 (some 7) (h := ?_)
    refine Zp 5 (some 8) (h := ?_)
    refine done_ (by kernel_rfl) ?_
    obtain ⟨Ao20, co20, eo20⟩ := Kd.N_slice HO1106.out
    subst eo20
    have p1107 : 0 ≤ (a1 : Int) := of_decide_eq_true (by first | (with_reducible assumption) | assumption)
    have q1107 : a1 < (t1104.length : Int) := of_decide_eq_true (by first | (with_reducible assumption) | assumption)
    obtain ⟨ad1107, A1107_0, c1107_0, e1107, hx1107_0, hl1107_0, hi1107_0⟩ := at_L1 (Kd.N_reads' HO1106.out).2.2 a1 p1107 q1107
    cases e1107
    obtain ⟨ce1107, hce1107, hMe1107, hcc1107⟩ := Kd.N_get HO1106.out [] a1 p1107 (by first | exact q1107 | exact of_decide_eq_true (by first | (with_reducible assumption) | assumption) | (have e_ := (Kd.N_reads' HO1106.out).1; omega))
    obtain ⟨ua1107_0, uc1107_0, rfl, ul1107_0, ge1107_0⟩ := Kd.FK_slice_open hMe1107
    have hv1107_0 := hcc1107 0 _ rfl
    rw [Nat.add_zero, show ((Kd.slice 2 (Kd.int .i64))).sz = 1 from rfl, Nat.mul_one] at hv1107_0
    replace hv1107_0 := Option.some.inj (hv1107_0.symm.trans hx1107_0)
    injection hv1107_0 with hva_ hvn_ hvc_
    rw [hva_] at ge1107_0
    rw [hvc_] at ul1107_0
    have HL1107_0 := Aside0.mk (show Kd.V (Kd.int .i64) 2 _ w.heap.size _ _ (rd_L1 t1104 a1) from Kd.V_mk ul1107_0 ge1107_0)
    clear hva_ hvn_ hvc_ ge1107_0 ul1107_0
    clear hcc1107 hce1107
    have HR1107_0 := Aside0.mk hi1107_0
    have HC1107_0 := Aside0.mk hl1107_0
    clear hi1107_0 hl1107_0
    replace p1107 := eq_true p1107
    replace q1107 := eq_true q1107
    try go_wp2_with (first | ((with_reducible refine gate_callee (f := 87) rfl ?_); refine goesL_ (some 28) rfl rfl Try.func87 (by kernel_rfl) rfl #[.int .i64 t1103, .slice A1107_0 (rd_L1 t1104 a1).length c1107_0] rfl ZA ?_; (with_reducible refine (impl_field_derivative.calls k t1103 _ _ (rd_L1 t1104 a1) t1108 _ ?side1 ?side2 A11.out).mono ?_); (case side1 => repeat (first | exact (by repeat (first | (with_reducible exact HR1107_0.out) | (with_reducible refine Kd.C_alloc ?_ _) | (with_reducible refine Kd.C_drewN ?_ _) | (with_reducible refine Kd.C_drew ?_) | exact HR1107_0.out)) | (with_reducible refine Kd.C_alloc ?_ _) | (with_reducible refine Kd.C_drewN ?_ _) | (with_reducible refine Kd.C_drew ?_))); (case side2 => exact HC1107_0.out); rintro e w21 ⟨v1109, rfl, ho0, hb⟩; refine ⟨_, rfl, ?_⟩; have n0_ := Aside0.mk (Kd.N_elder' (by (with_reducible repeat (first | apply Kd.N_alloc | apply Kd.N_drewN | apply Kd.N_drew)); exact HO1106.out) (Kd.R_base ho0) hb); have n1_ := Aside0.mk (Kd.V_elder' (by (with_reducible repeat (first | apply Kd.V_alloc | apply Kd.V_drewN | apply Kd.V_drew)); exact HL1107_0.out) (Kd.R_base ho0) hb); have n2_ := Aside0.mk (Kd.R_lower ho0 (below_size ZB)); have n3_ := ZL BK1099 hb; have n4_ := Aside0.mk (Kd.C_below (by repeat (first | (with_reducible exact HR1107_0.out) | (with_reducible refine Kd.C_alloc ?_ _) | (with_reducible refine Kd.C_drewN ?_ _) | (with_reducible refine Kd.C_drew ?_) | exact HR1107_0.out)) hb); have n5_ := Aside0.mk (below_step ZB hb); clear HO1106; clear HL1107_0; clear BK1099; clear HR1107_0; clear HB; have HO1106 := n0_; have HL1107_0 := n1_; have HO1110 := n2_; have BK1099 := n3_; have HR1107_0 := n4_; have HB := n5_; clear n0_ n1_ n2_ n3_ n4_ n5_; (try clear hb); (try clear hb2); (try clear hk); (try clear hi); (try clear ho0); obtain ⟨Ao22, co22, eo22⟩ := Kd.R_slice HO1110.out; subst eo22) | ((with_reducible refine gate_callee (f := 72) rfl ?_); refine goesL_ (some 30) rfl rfl Try.func72 (by kernel_rfl) rfl #[.int .i64 t1103, .slice Ao22 t1108.length co22, .slice (some ad1107) t1104.length co20] rfl ZA ?_; (with_reducible refine (impl_field_expand.calls k t1103 (fun k_ => some k_ = (.slice Ao22 t1108.length co22 : Value).ownBlock) _ _ t1108 _ _ t1104 t1111 _ ?side1 ?side2 ?side3 A12.out).mono ?_); (case side1 => exact Kd.R_V (Kd.R_tight rfl (Kd.R_types (Kd.R_apart' (HO1110.out) (Kd.N_typed HO1106.out) (by decide)) BK1099.out (by decide)))); (case side2 => repeat (first | exact (Kd.N_reads' HO1106.out).2.2 | (with_reducible refine Kd.C_alloc ?_ _) | (with_reducible refine Kd.C_drewN ?_ _) | (with_reducible refine Kd.C_drew ?_))); (case side3 => exact (Kd.N_reads' HO1106.out).2.1); rintro e w23 ⟨v1112, rfl, ho0, hb⟩; refine ⟨_, rfl, ?_⟩; have n0_ := Aside0.mk (Kd.N_elder' (by (with_reducible repeat (first | apply Kd.N_alloc | apply Kd.N_drewN | apply Kd.N_drew)); exact HO1106.out) (Kd.R_base ho0) hb); have n1_ := Aside0.mk (Kd.V_elder' (by (with_reducible repeat (first | apply Kd.V_alloc | apply Kd.V_drewN | apply Kd.V_drew)); exact HL1107_0.out) (Kd.R_base ho0) hb); have n2_ := Aside0.mk (Kd.R_elder' (ZR HO1110) (Kd.R_base ho0) hb); have n3_ := Aside0.mk (Kd.R_lower (Kd.R_new' (Kd.R_mono (ok' := fun k_ => True) ho0 (fun _ hk_ => trivial)) (Kd.R_lt (ZR HO1110))) (below_size ZB)); have n4_ := ZL BK1099 hb; have n5_ := Aside0.mk (Kd.C_below (by repeat (first | (with_reducible exact HR1107_0.out) | (with_reducible refine Kd.C_alloc ?_ _) | (with_reducible refine Kd.C_drewN ?_ _) | (with_reducible refine Kd.C_drew ?_) | exact HR1107_0.out)) hb); have n6_ := Aside0.mk (below_step ZB hb); clear HO1106; clear HL1107_0; clear HO1110; clear BK1099; clear HR1107_0; clear HB; have HO1106 := n0_; have HL1107_0 := n1_; have HO1110 := n2_; have HO1113 := n3_; have BK1099 := n4_; have HR1107_0 := n5_; have HB := n6_; clear n0_ n1_ n2_ n3_ n4_ n5_ n6_; (try clear hb); (try clear hb2); (try clear hk); (try clear hi); (try clear ho0)))
    go_ret2
    exact ⟨_, by first | rfl | (simp [errW_none, errW_some] <;> rfl) | (simp [*, errW_none, errW_some] <;> rfl), by refine ZQ ?_; exact Kd.R_mono HO1113.out (fun _ hk => trivial), ZB⟩
   ·rw [if_neg c10] at H
    exact absurd H (by simp)
  ·rw [if_neg c9] at H
   exact absurd H (by simp)
 ·rw [if_neg c6] at H
  have c6b0 : (t1102 == 0) = false := beq_eq_false_iff_ne.mpr c6
  have c6b1 : (t1102 != 0) = true := bne_iff_ne.mpr c6
  simp only [Option.some.injEq, Prod.mk.injEq] at H
  obtain ⟨rfl, rfl⟩ := H
  go_enter Try.func43, Try.ntmps43
  try go_wp2_with (first | ((with_reducible refine gate_dst (N := 2) rfl ?_); refine box_event ?hg (N := 2) ?hd (cs := #[.int .i64 a0_0, .slice A0_1 l0_1.length c0_1, .slice A0_2 l0_2.length c0_2]) (t := 29) ?hr ?_; (case hd => rfl); (case hg => rfl); (case hr => first | (go_simp; done) | (go_simp; rfl)); intro gb1099 hg w24 hbox hb; have n0_ := Aside0.mk (below_step ZB hb); have n1_ := Aside0.mk (hbox); have n2_ := Aside0.mk ((ZG hg : w.heap.size ≤ gb1099)); have n3_ := Aside0.mk ((ZG hg : w.heap.size ≤ gb1099)); clear HB; have HB := n0_; have BK1099 := n1_; have GW1099 := n2_; have GE1099 := n3_; clear n0_ n1_ n2_ n3_; clear hb hbox hg))
  have n0_ := Aside0.mk (blk_drew BK1099.out)
  have n1_ := Aside0.mk (below_drew1 HB.out)
  clear BK1099
  clear HB
  have BK1099 := n0_
  have HB := n1_
  clear n0_ n1_
  refine start_ (n := 7) (S := fun w' => w'.cell? ⟨gb1099, 0, none⟩ = some (.int .i64 a0_0) ∧ w'.cell? ⟨gb1099, 1, none⟩ = some (.slice A0_1 l0_1.length c0_1) ∧ w'.cell? ⟨gb1099, 2, none⟩ = some (.slice A0_2 l0_2.length c0_2)) (ds := []) #[false, false, false, false, false, false, false] (by kernel_rfl) rfl rfl ⟨(blk_cell BK1099.out 0).trans rfl, (blk_cell BK1099.out 1).trans rfl, (blk_cell BK1099.out 2).trans rfl⟩ (fun hHeld => ?_)
  generalize w24.drew = w25 at BK1099 HB hHeld ⊢
  refine Zp 1 (some 10) (h := ?_)
  refine Zt3 0 (some 9) hHeld (h := ?_)
  refine Zt3 2 (some 11) hHeld (h := ?_)
  refine one_ (i := 3) (N := some 12) #[true, true, true, true, false, false, false] rfl rfl (by kernel_rfl) (by decide) (fun K hK => ?_)
  refine goes_ Try.func59 (by kernel_rfl) rfl #[.agg #[.int .i64 a0_0, .slice A0_1 l0_1.length c0_1, .slice A0_2 l0_2.length c0_2]] (by rfl) rfl rfl ZA ?_
  with_reducible refine (impl_Jacobi_size.calls a0_0 _ _ l0_1 _ _ l0_2 t1100 _ ?side1 ?side2 ?side3 ?side4 A3.out).mono ?_
  (case side1 => exact ZC HR0_1)
  (case side2 => exact HC0_1.out)
  (case side3 => exact ZC HR0_2)
  (case side4 => exact HC0_2.out)
  rintro e w26 ⟨rfl, hb⟩
  refine ⟨_, rfl, ?_⟩
  have n0_ := ZL BK1099 hb
  have n1_ := Aside0.mk (below_step ZB hb)
  clear BK1099
  clear HB
  have BK1099 := n0_
  have HB := n1_
  clear n0_ n1_
  (try clear hb)
  (try clear hb2)
  (try clear hk)
  (try clear hi)
  refine hK.out _ _ ⟨(blk_cell BK1099.out 0).trans rfl, (blk_cell BK1099.out 1).trans rfl, (blk_cell BK1099.out 2).trans rfl⟩ (fun hHeld => ?_)
  clear hK K
  refine norm_ (a' := ?_) ?_ ?_
  rotate_left
  ·show Act.put _ (some 12) _ = _
   simp only [Act.put, List.setIfInBounds_toArray, List.set_cons_zero, List.set_cons_succ, i64_w, i32_w]
   rfl
  refine one_ (i := 4) (N := some 13) #[true, true, true, true, true, false, false] rfl rfl (by kernel_rfl) (by decide) (fun K hK => ?_)
  refine goes_ Try.func76 (by kernel_rfl) rfl #[.int .i64 a1, .int .i64 0, .int .i64 t1100] (by rfl) rfl rfl ZA ?_
  with_reducible refine (impl_within.calls a1 0 t1100 t1101 _ A4.out).mono ?_
  rintro e w' ⟨rfl, ⟨nd, rfl⟩⟩
  refine ⟨_, rfl, ?_⟩
  refine hK.out _ _ ⟨(blk_cell BK1099.out 0).trans rfl, (blk_cell BK1099.out 1).trans rfl, (blk_cell BK1099.out 2).trans rfl⟩ (fun hHeld => ?_)
  clear hK K
  refine norm_ (a' := ?_) ?_ ?_
  rotate_left
  ·show Act.put _ (some 13) _ = _
   simp only [Act.put, List.setIfInBounds_toArray, List.set_cons_zero, List.set_cons_succ, i64_w, i32_w]
   rfl
  refine one_ (i := 5) (N := some 14) #[true, true, true, true, true, true, false] rfl rfl (by kernel_rfl) (by decide) (fun K hK => ?_)
  refine goes_ Try.func58 (by kernel_rfl) rfl #[.agg #[.int .i64 a0_0, .slice A0_1 l0_1.length c0_1, .slice A0_2 l0_2.length c0_2], .bool t1101] (by rfl) rfl rfl ZA ?_
  with_reducible refine (impl_jacobiCode.calls k a0_0 _ _ l0_1 _ _ l0_2 t1101 t1102 _ ?side1 ?side2 ?side3 ?side4 A5.out).mono ?_
  (case side1 => exact ZE HR0_1)
  (case side2 => exact HC0_1.out)
  (case side3 => exact ZE HR0_2)
  (case side4 => exact HC0_2.out)
  rintro e w27 ⟨rfl, hb⟩
  refine ⟨_, rfl, ?_⟩
  have n0_ := ZL BK1099 hb
  have n1_ := Aside0.mk (below_step ZB hb)
  clear BK1099
  clear HB
  have BK1099 := n0_
  have HB := n1_
  clear n0_ n1_
  (try clear hb)
  (try clear hb2)
  (try clear hk)
  (try clear hi)
  refine hK.out _ _ ⟨(blk_cell BK1099.out 0).trans rfl, (blk_cell BK1099.out 1).trans rfl, (blk_cell BK1099.out 2).trans rfl⟩ (fun hHeld => ?_)
  clear hK K
  refine norm_ (a' := ?_) ?_ ?_
  rotate_left
  ·show Act.put _ (some 14) _ = _
   simp only [Act.put, List.setIfInBounds_toArray, List.set_cons_zero, List.set_cons_succ, i64_w, i32_w]
   rfl
  refine Zp 6 (some 6) (h := ?_)
  refine done_ (by kernel_rfl) ?_
  try go_wp2
  go_ret2
  exact ⟨_, by first | rfl | (simp [errW_none, errW_some] <;> rfl) | (simp [*, errW_none, errW_some] <;> rfl), by first | exact Kd.R_nil _ _ _ _ _ | exact Kd.N_nil _ _ _ _ _ | exact Kd.V_nil _ _ _ _ _ | exact Kd.Q_nil _ _ _ _ _ | exact Kd.S_nil _ _ _ _ _, ZB⟩

end Go.Proofs.Ytaclapojgdekpaa.X
