/- Contracts of functions that the law reaches, printed by a program of this session; Lean checks them. -/
import Derived.Test.YtaclapojgdekpaaCPathTriangleX0
import Derived.Test.YtaclapojgdekpaaCPathTriangleX5
import Derived.Test.YtaclapojgdekpaaCPathTriangleX7
import Derived.Test.YtaclapojgdekpaaCPathTriangleXZ
namespace Go.Proofs.Ytaclapojgdekpaa.X
open Go.RowKit Go.Proofs.YtaclapojgdekpaaW.PrintWords Go.Proofs.YtaclapojgdekpaaW.PrintLast Go.Proofs.YtaclapojgdekpaaW.PrintMore
attribute [local go_sem] max2_int min2_int max_two min_two max_three min_three max_four min_four   -- for this text's walks alone
set_option linter.unusedVariables false
set_option linter.unusedSimpArgs false

/-! ### impl_Jacobi_walk: function 98 -/
mutual
def impl_Jacobi_walk.l0 : Nat → List Int → Int → Int → Int → Int → Int → List Int → List Int → Option (List Int)
 | 0, _, _, _, _, _, _, _, _ => none
 | k + 1, x1, x7, x8, x16, x17, x188000, x188001, x188002 => if x17 < x16 then (if 0 ≤ x8 then (if (x8 : Int).toNat ≤ 35184372088832 then (impl_Jacobi_walk.l1 k x7 x8 (List.replicate (x8 : Int).toNat 0) x16 x17 x1 (x1.length : Int) 0 x188000 x188001 x188002) else (none)) else (none)) else (some x1)
def impl_Jacobi_walk.l1 : Nat → Int → Int → List Int → Int → Int → List Int → Int → Int → Int → List Int → List Int → Option (List Int)
 | 0, _, _, _, _, _, _, _, _, _, _, _ => none
 | k + 1, x7, x8, x9, x16, x17, x21, x22, x23, x188000, x188001, x188002 => if x23 < x22 then (if 0 ≤ x23 then (if x23 < (x21.length : Int) then (if x23 < (x9.length : Int) then (if x23 < (x188001.length : Int) then ((impl_field_mod.f x7 (wrap64 ((rd x9 x23) + (wrap64 ((rd x188001 x23) * (rd x21 x23)))))).bind fun t195 => ((some (x9.set (x23 : Int).toNat t195 : List Int)).bind fun y196 => (if (wrap64 (x23 + 1)) < x8 then (if 0 ≤ (wrap64 (x23 + 1)) then (if (wrap64 (x23 + 1)) < (x9.length : Int) then ((impl_field_mod.f x7 (wrap64 ((rd y196 (wrap64 (x23 + 1))) + (rd x21 x23)))).bind fun t198 => ((some (y196.set ((wrap64 (x23 + 1)) : Int).toNat t198 : List Int)).bind fun y199 => (if x23 > 0 then (if 0 ≤ (wrap64 (x23 - 1)) then (if (wrap64 (x23 - 1)) < (x9.length : Int) then (if x23 < (x188002.length : Int) then ((impl_field_mod.f x7 (wrap64 ((rd y199 (wrap64 (x23 - 1))) + (wrap64 ((rd x188002 x23) * (rd x21 x23)))))).bind fun t202 => (impl_Jacobi_walk.l1 k x7 x8 (y199.set ((wrap64 (x23 - 1)) : Int).toNat t202) x16 x17 x21 x22 (wrap64 (x23 + 1)) x188000 x188001 x188002)) else (none)) else (none)) else (none)) else (impl_Jacobi_walk.l1 k x7 x8 y199 x16 x17 x21 x22 (wrap64 (x23 + 1)) x188000 x188001 x188002)))) else (none)) else (none)) else (if x23 > 0 then (if 0 ≤ (wrap64 (x23 - 1)) then (if (wrap64 (x23 - 1)) < (x9.length : Int) then (if x23 < (x188002.length : Int) then ((impl_field_mod.f x7 (wrap64 ((rd y196 (wrap64 (x23 - 1))) + (wrap64 ((rd x188002 x23) * (rd x21 x23)))))).bind fun t206 => (impl_Jacobi_walk.l1 k x7 x8 (y196.set ((wrap64 (x23 - 1)) : Int).toNat t206) x16 x17 x21 x22 (wrap64 (x23 + 1)) x188000 x188001 x188002)) else (none)) else (none)) else (none)) else (impl_Jacobi_walk.l1 k x7 x8 y196 x16 x17 x21 x22 (wrap64 (x23 + 1)) x188000 x188001 x188002))))) else (none)) else (none)) else (none)) else (none)) else (impl_Jacobi_walk.l0 k x9 x7 x8 x16 (wrap64 (x17 + 1)) x188000 x188001 x188002)
end
def impl_Jacobi_walk.f (k : Nat) (a0_0 : Int) (l0_1 : List Int) (l0_2 : List Int) (l1 : List Int) (a2 : Int) : Option (List Int) := (impl_Jacobi_field.f a0_0 l0_1 l0_2).bind fun t188 => (impl_Jacobi_walk.l0 k l1 t188 (l1.length : Int) a2 0 a0_0 l0_1 l0_2)
theorem impl_Jacobi_walk.mono_l : ∀ k, (∀ y0 y1 y2 y3 y4 y5 y6 y7, LeO (impl_Jacobi_walk.l0 k y0 y1 y2 y3 y4 y5 y6 y7) (impl_Jacobi_walk.l0 (k + 1) y0 y1 y2 y3 y4 y5 y6 y7)) ∧ (∀ y0 y1 y2 y3 y4 y5 y6 y7 y8 y9 y10, LeO (impl_Jacobi_walk.l1 k y0 y1 y2 y3 y4 y5 y6 y7 y8 y9 y10) (impl_Jacobi_walk.l1 (k + 1) y0 y1 y2 y3 y4 y5 y6 y7 y8 y9 y10))
 | 0 => ⟨fun _ _ _ _ _ _ _ _ r h => by simp [impl_Jacobi_walk.l0] at h, fun _ _ _ _ _ _ _ _ _ _ _ r h => by simp [impl_Jacobi_walk.l1] at h⟩
 | k + 1 => by
  obtain ⟨ih0, ih1⟩ := impl_Jacobi_walk.mono_l k
  refine ⟨?_, ?_⟩
  ·intro y0 y1 y2 y3 y4 y5 y6 y7
   unfold impl_Jacobi_walk.l0
   repeat' first
   | (with_reducible exact ih0 _ _ _ _ _ _ _ _)
   | (with_reducible exact ih1 _ _ _ _ _ _ _ _ _ _ _)
   | (with_reducible exact LeO.refl _)
   | (with_reducible exact LeO.none _)
   | (with_reducible refine LeO.ite ?_ ?_)
   | (with_reducible refine LeO.bind ?_ (fun _ => ?_))
   | exact ih0 _ _ _ _ _ _ _ _
   | exact ih1 _ _ _ _ _ _ _ _ _ _ _
   | exact LeO.none _
   | refine LeO.ite ?_ ?_
   | refine LeO.bind ?_ (fun _ => ?_)
  ·intro y0 y1 y2 y3 y4 y5 y6 y7 y8 y9 y10
   unfold impl_Jacobi_walk.l1
   repeat' first
   | (with_reducible exact ih0 _ _ _ _ _ _ _ _)
   | (with_reducible exact ih1 _ _ _ _ _ _ _ _ _ _ _)
   | (with_reducible exact LeO.refl _)
   | (with_reducible exact LeO.none _)
   | (with_reducible refine LeO.ite ?_ ?_)
   | (with_reducible refine LeO.bind ?_ (fun _ => ?_))
   | exact ih0 _ _ _ _ _ _ _ _
   | exact ih1 _ _ _ _ _ _ _ _ _ _ _
   | exact LeO.none _
   | refine LeO.ite ?_ ?_
   | refine LeO.bind ?_ (fun _ => ?_)
theorem impl_Jacobi_walk.mono : ∀ a0 a1 a2 a3 a4 k, LeO (impl_Jacobi_walk.f k a0 a1 a2 a3 a4) (impl_Jacobi_walk.f (k + 1) a0 a1 a2 a3 a4) := by
 intro a0 a1 a2 a3 a4 k
 obtain ⟨ih0, ih1⟩ := impl_Jacobi_walk.mono_l k
 unfold impl_Jacobi_walk.f
 repeat' first
   | (with_reducible exact ih0 _ _ _ _ _ _ _ _)
   | (with_reducible exact ih1 _ _ _ _ _ _ _ _ _ _ _)
   | (with_reducible exact LeO.refl _)
   | (with_reducible exact LeO.none _)
   | (with_reducible refine LeO.ite ?_ ?_)
   | (with_reducible refine LeO.bind ?_ (fun _ => ?_))
   | exact ih0 _ _ _ _ _ _ _ _
   | exact ih1 _ _ _ _ _ _ _ _ _ _ _
   | exact LeO.none _
   | refine LeO.ite ?_ ?_
   | refine LeO.bind ?_ (fun _ => ?_)
def impl_Jacobi_walk.T8 : Bool × List (List Nat × List Nat) := (true, [([], []), ([], []), ([], []), ([], []), ([], []), ([3, 4], [3, 4]), ([5], [5]), ([], []), ([7], [7]), ([], []), ([8, 9], [8, 9]), ([10], [10]), ([], []), ([11, 12], [11, 12]), ([6, 13], [6, 13]), ([2, 14], [2, 14]), ([0, 1, 0, 1, 2, 3, 4, 5, 6, 7, 8, 9, 10, 11, 12, 13, 14, 15], [0, 1]), ([16, 15, 15, 0, 1, 2, 3, 4, 5, 6, 7, 8, 9, 10, 11, 12, 13, 14, 15], [15, 16])])
def impl_Jacobi_walk.B8 : List Nat := [0, 0, 0, 0, 0, 24, 56, 0, 128, 0, 896, 1920, 0, 8064, 16376, 32764, 65535, 131071]
theorem impl_Jacobi_walk.tab8 : rtab .any (opsOf Try.f98 8) = impl_Jacobi_walk.T8 := by kernel_rfl
theorem impl_Jacobi_walk.bits8 : waitsOk impl_Jacobi_walk.T8.2 impl_Jacobi_walk.B8 = true := by kernel_rfl
def impl_Jacobi_walk.T12 : Bool × List (List Nat × List Nat) := (true, [([], []), ([], []), ([1], [1]), ([], []), ([], []), ([], []), ([5], [5]), ([4, 6], [4, 6]), ([7], [7]), ([], []), ([9], [9]), ([], []), ([10, 11], [10, 11]), ([12], [12]), ([], []), ([13, 14], [13, 14]), ([8, 15], [8, 15]), ([3, 16], [3, 16]), ([0, 2, 0, 1, 2, 3, 4, 5, 6, 7, 8, 9, 10, 11, 12, 13, 14, 15, 16, 17], [0, 2]), ([18, 17, 17, 0, 1, 2, 3, 4, 5, 6, 7, 8, 9, 10, 11, 12, 13, 14, 15, 16, 17], [17, 18])])
def impl_Jacobi_walk.B12 : List Nat := [0, 0, 2, 0, 0, 0, 32, 112, 240, 0, 512, 0, 3584, 7680, 0, 32256, 65520, 131064, 262143, 524287]
theorem impl_Jacobi_walk.tab12 : rtab .any (opsOf Try.f98 12) = impl_Jacobi_walk.T12 := by kernel_rfl
theorem impl_Jacobi_walk.bits12 : waitsOk impl_Jacobi_walk.T12.2 impl_Jacobi_walk.B12 = true := by kernel_rfl
set_option maxHeartbeats 8000000 in
set_option maxRecDepth 100000 in
theorem impl_Jacobi_walk.calls (k : Nat) (a0_0 : Int) (A0_1 : Option Addr) (c0_1 : Nat) (l0_1 : List Int) (A0_2 : Option Addr) (c0_2 : Nat) (l0_2 : List Int) (P1_ : Nat → Prop) (A1 : Option Addr) (c1 : Nat) (l1 : List Int) (a2 : Int) (r : List Int) (w : World) (hr0_1 : Kd.C (Kd.int .i64) w A0_1 l0_1.length l0_1) (hc0_1 : l0_1.length ≤ c0_1) (hr0_2 : Kd.C (Kd.int .i64) w A0_2 l0_2.length l0_2) (hc0_2 : l0_2.length ≤ c0_2) (hs1 : Kd.V (Kd.int .i64) 2 w w.heap.size (fun k_ => P1_ k_) (.slice A1 l1.length c1) l1) (h : impl_Jacobi_walk.f k a0_0 l0_1 l0_2 l1 a2 = some r) :
  Calls Try.prog 98 #[.agg #[.int .i64 a0_0, .slice A0_1 l0_1.length c0_1, .slice A0_2 l0_2.length c0_2], .slice A1 l1.length c1, .int .i64 a2] w fun e w' => ∃ v0_ : Value, e = .returned (v0_) ∧ Kd.V (Kd.int .i64) 2 w' w.heap.size (fun k_ => (P1_ k_ ∨ w.heap.size ≤ k_)) v0_ r ∧ Below w.heap.size w w' := by
 have hu29 := Try.underlying29
 have HR0_1 := Aside0.mk hr0_1
 have HC0_1 := Aside0.mk hc0_1
 clear hr0_1 hc0_1
 have HR0_2 := Aside0.mk hr0_2
 have HC0_2 := Aside0.mk hc0_2
 clear hr0_2 hc0_2
 have HO1 := Aside0.mk (show Kd.V (Kd.int .i64) 2 w w.heap.size (fun k_ => (P1_ k_ ∨ w.heap.size ≤ k_)) (.slice A1 l1.length c1) l1 from Kd.V_mono hs1 (fun k_ hk => .inl hk))
 have HB := Aside0.mk (Below.refl w.heap.size w)
 have H : ((impl_Jacobi_field.f a0_0 l0_1 l0_2).bind fun t188 => (impl_Jacobi_walk.l0 k l1 t188 (l1.length : Int) a2 0 a0_0 l0_1 l0_2)) = some r := h
 clear h
 replace H := Option.bind_eq_some_iff.mp H
 obtain ⟨t188, A40, H⟩ := H
 replace H : (impl_Jacobi_walk.l0 k l1 t188 (l1.length : Int) a2 0 a0_0 l0_1 l0_2) = some r := H
 have A4 := Aside0.mk A40
 clear A40
 have H' := Aside0.mk H
 clear H
 go_enter Try.func98, Try.ntmps98
 go_wp2_with (first | ((with_reducible refine gate_dst (N := 3) rfl ?_); refine box_event ?hg (N := 3) ?hd (cs := #[.int .i64 a0_0, .slice A0_1 l0_1.length c0_1, .slice A0_2 l0_2.length c0_2]) (t := 29) ?hr ?_; (case hd => rfl); (case hg => rfl); (case hr => first | (go_simp; done) | (go_simp; rfl)); intro gb187 hg w5 hbox hb; have n0_ := Aside0.mk (Kd.V_below (Kd.V_elderB (by (with_reducible repeat (first | apply Kd.V_alloc | apply Kd.V_drewN | apply Kd.V_drew)); exact HO1.out) gb187 (Nat.le_of_eq hg.symm)) hb); have n1_ := Aside0.mk (below_step ZB hb); have n2_ := Aside0.mk (hbox); have n3_ := Aside0.mk ((ZG hg : w.heap.size ≤ gb187)); have n4_ := Aside0.mk ((ZG hg : w.heap.size ≤ gb187)); clear HO1; clear HB; have HO1 := n0_; have HB := n1_; have BK187 := n2_; have GW187 := n3_; have GE187 := n4_; clear n0_ n1_ n2_ n3_ n4_; clear hb hbox hg; obtain ⟨hcz6_0, hcz6_1, hcz6_2, hfz6_0, hfz6_1, hfz6_2⟩ := ZD3 BK187) | ((with_reducible refine gate_callee (f := 64) rfl ?_); refine goesL_ (some 13) rfl rfl Try.func64 (by kernel_rfl) rfl #[.agg #[.int .i64 a0_0, .slice A0_1 l0_1.length c0_1, .slice A0_2 l0_2.length c0_2]] rfl ZA ?_; (with_reducible refine (impl_Jacobi_field.calls a0_0 _ _ l0_1 _ _ l0_2 t188 _ ?side1 ?side2 ?side3 ?side4 A4.out).mono ?_); (case side1 => exact ZC HR0_1); (case side2 => exact HC0_1.out); (case side3 => exact ZC HR0_2); (case side4 => exact HC0_2.out); rintro e w7 ⟨rfl, hb⟩; refine ⟨_, rfl, ?_⟩; have n0_ := Aside0.mk (Kd.V_below (by (with_reducible repeat (first | apply Kd.V_alloc | apply Kd.V_drewN | apply Kd.V_drew)); exact HO1.out) hb); have n1_ := ZL BK187 hb; have n2_ := Aside0.mk (below_step ZB hb); clear HO1; clear BK187; clear HB; have HO1 := n0_; have BK187 := n1_; have HB := n2_; clear n0_ n1_ n2_; (try clear hb); (try clear hb2); (try clear hk); (try clear hi)))
 go_loopg [1, 17] k (fun kq v1 v17 w' => ∃ (x1_1 : List Int) (x17_1 : Int), v17 = .int .i64 x17_1 ∧ Aside0 (impl_Jacobi_walk.l0 kq x1_1 t188 (l1.length : Int) a2 x17_1 a0_0 l0_1 l0_2 = some r) ∧ Aside0 (kq ≤ k) ∧ Aside0 (Kd.V (Kd.int .i64) 2 w' w.heap.size (fun k_ => (P1_ k_ ∨ w.heap.size ≤ k_) ∧ k_ ≠ gb187) v1 x1_1) ∧ Aside0 (w'.heap[gb187]? = some (.cells #[.int .i64 a0_0, (.slice A0_1 l0_1.length c0_1), (.slice A0_2 l0_2.length c0_2)] 29 (0, 0))) ∧ Aside0 (Below w.heap.size w w'))
 case atStart => exact ⟨(l1), (0), (by first | rfl | (simp; done) | (simp [*]; done)), H', ⟨Nat.le_refl _⟩, ⟨by (with_reducible repeat (first | apply Kd.V_alloc | apply Kd.V_drewN | apply Kd.V_drew)); exact HO1.out⟩, ⟨ZK BK187⟩, ⟨ZB⟩⟩
 case round =>
  clear H'
  try clear c1
  try clear p2
  try clear c6
  try clear hcz6_0
  try clear hcz6_1
  try clear hcz6_2
  try clear hfz6_0
  try clear hfz6_1
  try clear hfz6_2
  obtain ⟨x1_1, x17_1, rfl, HA, HK1, HO_1, BK187, HB⟩ := hrel
  cases gk with
  | zero => exact absurd HA.out (by simp [impl_Jacobi_walk.l0])
  | succ k1 =>
   have H := HA.out
   clear HA
   simp only [impl_Jacobi_walk.l0] at H
   by_cases c8 : x17_1 < a2
   ·rw [if_pos c8] at H
    have c8b0 : decide (x17_1 < a2) = true := decide_eq_true c8
    clear c8
    by_cases c9 : 0 ≤ (l1.length : Int)
    ·rw [if_pos c9] at H
     have c9b0 := eq_true c9
     have c9b1 : decide (0 ≤ (l1.length : Int)) = true := decide_eq_true c9
     clear c9
     by_cases c10 : ((l1.length : Int) : Int).toNat ≤ 35184372088832
     ·rw [if_pos c10] at H
      have c10b0 := eq_true c10
      have c10b1 : decide (((l1.length : Int) : Int).toNat ≤ 35184372088832) = true := decide_eq_true c10
      clear c10
      obtain ⟨y189, hy189⟩ : ∃ y_ : List Int, y_ = (List.replicate ((l1.length : Int) : Int).toNat 0) := ⟨_, rfl⟩
      replace H : (impl_Jacobi_walk.l1 k1 t188 (l1.length : Int) y189 a2 x17_1 x1_1 (x1_1.length : Int) 0 a0_0 l0_1 l0_2) = some r := by first | (rw [hy189]; with_reducible exact H) | (have H2_ := (Option.bind_some _ _).symm.trans H; rw [hy189]; with_reducible exact H2_) | (have H2_ := (Option.bind_some _ _).symm.trans H; with_reducible exact H2_) | with_reducible exact H | (rw [hy189]; exact H) | exact H
      have Ny189 := Aside0.mk hy189
      clear hy189
      have H' := Aside0.mk H
      clear H
      go_wp2_with (first | ((with_reducible refine gate_dst (N := 20) rfl ?_); refine Kd.R_make (Kd.int .i64) _ 2 rfl (N := 20) rfl 22 _ _ rfl (l1.length : Int) rfl rfl Try.underlying22 (.int .i64 0) 8 info2 rfl (by decide) (by omega) 0 (ok := fun _ => True) (okp := fun _ => True) rfl (fun _ hk => hk) trivial (of_decide_eq_true (by first | (with_reducible assumption) | assumption)) (Nat.le_trans (Nat.mul_le_mul_right _ (of_decide_eq_true (by first | (with_reducible assumption) | assumption) : (l1.length : Int).toNat ≤ 35184372088832)) (by omega)) (Below.refl _ _) (Nat.le_refl _) ?_; intro v190 w11 ho12 hb hg_ hnew_; clear hg_ hnew_; (first | rw [← Ny189.out] at ho12 | (simp only [Int.reduceToNat] at ho12; rw [← Ny189.out] at ho12)); have n0_ := Aside0.mk (Kd.V_elder' (by (with_reducible repeat (first | apply Kd.V_alloc | apply Kd.V_drewN | apply Kd.V_drew)); exact HO_1.out) (Kd.R_base ho12) hb); have n1_ := Aside0.mk (Kd.R_lower (Kd.R_newM (M := fun k_ => (w.heap.size ≤ k_)) ho12 (below_size ZB) (fun k_ h_ => h_)) (below_size ZB)); have n2_ := ZL BK187 hb; have n3_ := Aside0.mk (below_step ZB hb); clear HO_1; clear BK187; clear HB; have HO_1 := n0_; have HO191 := n1_; have BK187 := n2_; have HB := n3_; clear n0_ n1_ n2_ n3_; clear hb ho12; obtain ⟨Ao13, co13, eo13⟩ := Kd.V_slice HO_1.out; subst eo13))
      go_loopg [23] k1 (fun kq v23 w' => ∃ (x9_2 : List Int) (x23_2 : Int), v23 = .int .i64 x23_2 ∧ Aside0 (impl_Jacobi_walk.l1 kq t188 (l1.length : Int) x9_2 a2 x17_1 x1_1 (x1_1.length : Int) x23_2 a0_0 l0_1 l0_2 = some r) ∧ Aside0 (kq ≤ k1) ∧ Aside0 (Kd.R (Kd.int .i64) 2 w' w.heap.size (fun k_ => (w.heap.size ≤ k_)) v190 x9_2) ∧ Aside0 (Kd.V (Kd.int .i64) 2 w' w.heap.size (fun k_ => (P1_ k_ ∨ w.heap.size ≤ k_) ∧ some k_ ≠ (v190 : Value).ownBlock ∧ k_ ≠ gb187) (.slice Ao13 x1_1.length co13) x1_1) ∧ Aside0 (w'.heap[gb187]? = some (.cells #[.int .i64 a0_0, (.slice A0_1 l0_1.length c0_1), (.slice A0_2 l0_2.length c0_2)] 29 (0, 0))) ∧ Aside0 (Below w.heap.size w w'))
      case atStart => exact ⟨(y189), (0), (by first | rfl | (simp; done) | (simp [*]; done)), H', ⟨Nat.le_refl _⟩, ⟨by refine ZQ ?_; exact Kd.R_mono HO191.out (fun _ hk => hk.1)⟩, ⟨by (with_reducible repeat (first | apply Kd.V_alloc | apply Kd.V_drewN | apply Kd.V_drew)); exact Kd.V_mono HO_1.out (fun _ hk => (And.intro (hk.1.1) ((And.intro (hk.2) (hk.1.2)))))⟩, ⟨ZK BK187⟩, ⟨ZB⟩⟩
      case round =>
       clear H'
       try clear c1
       try clear p2
       try clear c6
       try clear c8
       try clear c8b0
       try clear c9
       try clear c9b0
       try clear c9b1
       try clear c10
       try clear c10b0
       try clear c10b1
       try clear hcz6_0
       try clear hcz6_1
       try clear hcz6_2
       try clear hfz6_0
       try clear hfz6_1
       try clear hfz6_2
       try clear p2
       obtain ⟨x9_2, x23_2, rfl, HA, HK2, HO_9, HO_21, BK187, HB⟩ := hrel
       cases gk with
       | zero => exact absurd HA.out (by simp [impl_Jacobi_walk.l1])
       | succ k2 =>
        have H := HA.out
        clear HA
        simp only [impl_Jacobi_walk.l1] at H
        by_cases c14 : x23_2 < (x1_1.length : Int)
        ·rw [if_pos c14] at H
         have c14b0 : decide (x23_2 < (x1_1.length : Int)) = true := decide_eq_true c14
         clear c14
         by_cases c15 : 0 ≤ x23_2
         ·rw [if_pos c15] at H
          have c15b0 : decide (0 ≤ x23_2) = true := decide_eq_true c15
          clear c15
          by_cases c16 : x23_2 < (x1_1.length : Int)
          ·rw [if_pos c16] at H
           have c16b0 : decide (x23_2 < (x1_1.length : Int)) = true := decide_eq_true c16
           clear c16
           by_cases c17 : x23_2 < (x9_2.length : Int)
           ·rw [if_pos c17] at H
            have c17b0 : decide (x23_2 < (x9_2.length : Int)) = true := decide_eq_true c17
            clear c17
            by_cases c18 : x23_2 < (l0_1.length : Int)
            ·rw [if_pos c18] at H
             have c18b0 : decide (x23_2 < (l0_1.length : Int)) = true := decide_eq_true c18
             clear c18
             replace H := Option.bind_eq_some_iff.mp H
             obtain ⟨t195, A190, H⟩ := H
             replace H : ((some (x9_2.set (x23_2 : Int).toNat t195 : List Int)).bind fun y196 => (if (wrap64 (x23_2 + 1)) < (l1.length : Int) then (if 0 ≤ (wrap64 (x23_2 + 1)) then (if (wrap64 (x23_2 + 1)) < (x9_2.length : Int) then ((impl_field_mod.f t188 (wrap64 ((rd y196 (wrap64 (x23_2 + 1))) + (rd x1_1 x23_2)))).bind fun t198 => ((some (y196.set ((wrap64 (x23_2 + 1)) : Int).toNat t198 : List Int)).bind fun y199 => (if x23_2 > 0 then (if 0 ≤ (wrap64 (x23_2 - 1)) then (if (wrap64 (x23_2 - 1)) < (x9_2.length : Int) then (if x23_2 < (l0_2.length : Int) then ((impl_field_mod.f t188 (wrap64 ((rd y199 (wrap64 (x23_2 - 1))) + (wrap64 ((rd l0_2 x23_2) * (rd x1_1 x23_2)))))).bind fun t202 => (impl_Jacobi_walk.l1 k2 t188 (l1.length : Int) (y199.set ((wrap64 (x23_2 - 1)) : Int).toNat t202) a2 x17_1 x1_1 (x1_1.length : Int) (wrap64 (x23_2 + 1)) a0_0 l0_1 l0_2)) else (none)) else (none)) else (none)) else (impl_Jacobi_walk.l1 k2 t188 (l1.length : Int) y199 a2 x17_1 x1_1 (x1_1.length : Int) (wrap64 (x23_2 + 1)) a0_0 l0_1 l0_2)))) else (none)) else (none)) else (if x23_2 > 0 then (if 0 ≤ (wrap64 (x23_2 - 1)) then (if (wrap64 (x23_2 - 1)) < (x9_2.length : Int) then (if x23_2 < (l0_2.length : Int) then ((impl_field_mod.f t188 (wrap64 ((rd y196 (wrap64 (x23_2 - 1))) + (wrap64 ((rd l0_2 x23_2) * (rd x1_1 x23_2)))))).bind fun t206 => (impl_Jacobi_walk.l1 k2 t188 (l1.length : Int) (y196.set ((wrap64 (x23_2 - 1)) : Int).toNat t206) a2 x17_1 x1_1 (x1_1.length : Int) (wrap64 (x23_2 + 1)) a0_0 l0_1 l0_2)) else (none)) else (none)) else (none)) else (impl_Jacobi_walk.l1 k2 t188 (l1.length : Int) y196 a2 x17_1 x1_1 (x1_1.length : Int) (wrap64 (x23_2 + 1)) a0_0 l0_1 l0_2)))) = some r := H
             have A19 := Aside0.mk A190
             clear A190
             obtain ⟨y196, hy196⟩ : ∃ y_ : List Int, y_ = (x9_2.set (x23_2 : Int).toNat t195) := ⟨_, rfl⟩
             replace H : (if (wrap64 (x23_2 + 1)) < (l1.length : Int) then (if 0 ≤ (wrap64 (x23_2 + 1)) then (if (wrap64 (x23_2 + 1)) < (x9_2.length : Int) then ((impl_field_mod.f t188 (wrap64 ((rd y196 (wrap64 (x23_2 + 1))) + (rd x1_1 x23_2)))).bind fun t198 => ((some (y196.set ((wrap64 (x23_2 + 1)) : Int).toNat t198 : List Int)).bind fun y199 => (if x23_2 > 0 then (if 0 ≤ (wrap64 (x23_2 - 1)) then (if (wrap64 (x23_2 - 1)) < (x9_2.length : Int) then (if x23_2 < (l0_2.length : Int) then ((impl_field_mod.f t188 (wrap64 ((rd y199 (wrap64 (x23_2 - 1))) + (wrap64 ((rd l0_2 x23_2) * (rd x1_1 x23_2)))))).bind fun t202 => (impl_Jacobi_walk.l1 k2 t188 (l1.length : Int) (y199.set ((wrap64 (x23_2 - 1)) : Int).toNat t202) a2 x17_1 x1_1 (x1_1.length : Int) (wrap64 (x23_2 + 1)) a0_0 l0_1 l0_2)) else (none)) else (none)) else (none)) else (impl_Jacobi_walk.l1 k2 t188 (l1.length : Int) y199 a2 x17_1 x1_1 (x1_1.length : Int) (wrap64 (x23_2 + 1)) a0_0 l0_1 l0_2)))) else (none)) else (none)) else (if x23_2 > 0 then (if 0 ≤ (wrap64 (x23_2 - 1)) then (if (wrap64 (x23_2 - 1)) < (x9_2.length : Int) then (if x23_2 < (l0_2.length : Int) then ((impl_field_mod.f t188 (wrap64 ((rd y196 (wrap64 (x23_2 - 1))) + (wrap64 ((rd l0_2 x23_2) * (rd x1_1 x23_2)))))).bind fun t206 => (impl_Jacobi_walk.l1 k2 t188 (l1.length : Int) (y196.set ((wrap64 (x23_2 - 1)) : Int).toNat t206) a2 x17_1 x1_1 (x1_1.length : Int) (wrap64 (x23_2 + 1)) a0_0 l0_1 l0_2)) else (none)) else (none)) else (none)) else (impl_Jacobi_walk.l1 k2 t188 (l1.length : Int) y196 a2 x17_1 x1_1 (x1_1.length : Int) (wrap64 (x23_2 + 1)) a0_0 l0_1 l0_2))) = some r := by first | (rw [hy196]; with_reducible exact H) | (have H2_ := (Option.bind_some _ _).symm.trans H; rw [hy196]; with_reducible exact H2_) | (have H2_ := (Option.bind_some _ _).symm.trans H; with_reducible exact H2_) | with_reducible exact H | (rw [hy196]; exact H) | exact H
             have Ny196 := Aside0.mk hy196
             clear hy196
             by_cases c21 : (wrap64 (x23_2 + 1)) < (l1.length : Int)
             ·rw [if_pos c21] at H
              have c21b0 : decide ((wrap64 (x23_2 + 1)) < (l1.length : Int)) = true := decide_eq_true c21
              clear c21
              obtain ⟨ji22, hji22⟩ : ∃ j_ : Int, (wrap64 (x23_2 + 1)) = j_ := ⟨_, rfl⟩
              replace H : (if 0 ≤ (ji22) then (if (ji22) < (x9_2.length : Int) then ((impl_field_mod.f t188 (wrap64 ((rd y196 (ji22)) + (rd x1_1 x23_2)))).bind fun t198 => ((some (y196.set ((ji22) : Int).toNat t198 : List Int)).bind fun y199 => (if x23_2 > 0 then (if 0 ≤ (wrap64 (x23_2 - 1)) then (if (wrap64 (x23_2 - 1)) < (x9_2.length : Int) then (if x23_2 < (l0_2.length : Int) then ((impl_field_mod.f t188 (wrap64 ((rd y199 (wrap64 (x23_2 - 1))) + (wrap64 ((rd l0_2 x23_2) * (rd x1_1 x23_2)))))).bind fun t202 => (impl_Jacobi_walk.l1 k2 t188 (l1.length : Int) (y199.set ((wrap64 (x23_2 - 1)) : Int).toNat t202) a2 x17_1 x1_1 (x1_1.length : Int) ji22 a0_0 l0_1 l0_2)) else (none)) else (none)) else (none)) else (impl_Jacobi_walk.l1 k2 t188 (l1.length : Int) y199 a2 x17_1 x1_1 (x1_1.length : Int) ji22 a0_0 l0_1 l0_2)))) else (none)) else (none)) = some r := by first | (rw [hji22] at H; exact H) | (simp only [hji22] at H ⊢; exact H)
              (try rw [hji22] at c21b0)
              (try rw [hji22] at A19)
              have hji22w : (IntKind.i64.wrap (x23_2 + 1)) = ji22 := (i64_w _).trans hji22
              by_cases c23 : 0 ≤ (ji22)
              ·rw [if_pos c23] at H
               have c23b0 : decide (0 ≤ (ji22)) = true := decide_eq_true c23
               clear c23
               by_cases c24 : (ji22) < (x9_2.length : Int)
               ·rw [if_pos c24] at H
                have c24b0 : decide ((ji22) < (x9_2.length : Int)) = true := decide_eq_true c24
                clear c24
                replace H := Option.bind_eq_some_iff.mp H
                obtain ⟨t198, A250, H⟩ := H
                replace H : ((some (y196.set ((ji22) : Int).toNat t198 : List Int)).bind fun y199 => (if x23_2 > 0 then (if 0 ≤ (wrap64 (x23_2 - 1)) then (if (wrap64 (x23_2 - 1)) < (x9_2.length : Int) then (if x23_2 < (l0_2.length : Int) then ((impl_field_mod.f t188 (wrap64 ((rd y199 (wrap64 (x23_2 - 1))) + (wrap64 ((rd l0_2 x23_2) * (rd x1_1 x23_2)))))).bind fun t202 => (impl_Jacobi_walk.l1 k2 t188 (l1.length : Int) (y199.set ((wrap64 (x23_2 - 1)) : Int).toNat t202) a2 x17_1 x1_1 (x1_1.length : Int) ji22 a0_0 l0_1 l0_2)) else (none)) else (none)) else (none)) else (impl_Jacobi_walk.l1 k2 t188 (l1.length : Int) y199 a2 x17_1 x1_1 (x1_1.length : Int) ji22 a0_0 l0_1 l0_2))) = some r := H
                have A25 := Aside0.mk A250
                clear A250
                obtain ⟨y199, hy199⟩ : ∃ y_ : List Int, y_ = (y196.set ((ji22) : Int).toNat t198) := ⟨_, rfl⟩
                replace H : (if x23_2 > 0 then (if 0 ≤ (wrap64 (x23_2 - 1)) then (if (wrap64 (x23_2 - 1)) < (x9_2.length : Int) then (if x23_2 < (l0_2.length : Int) then ((impl_field_mod.f t188 (wrap64 ((rd y199 (wrap64 (x23_2 - 1))) + (wrap64 ((rd l0_2 x23_2) * (rd x1_1 x23_2)))))).bind fun t202 => (impl_Jacobi_walk.l1 k2 t188 (l1.length : Int) (y199.set ((wrap64 (x23_2 - 1)) : Int).toNat t202) a2 x17_1 x1_1 (x1_1.length : Int) ji22 a0_0 l0_1 l0_2)) else (none)) else (none)) else (none)) else (impl_Jacobi_walk.l1 k2 t188 (l1.length : Int) y199 a2 x17_1 x1_1 (x1_1.length : Int) ji22 a0_0 l0_1 l0_2)) = some r := by first | (rw [hy199]; with_reducible exact H) | (have H2_ := (Option.bind_some _ _).symm.trans H; rw [hy199]; with_reducible exact H2_) | (have H2_ := (Option.bind_some _ _).symm.trans H; with_reducible exact H2_) | with_reducible exact H | (rw [hy199]; exact H) | exact H
                have Ny199 := Aside0.mk hy199
                clear hy199
                by_cases c27 : x23_2 > 0
                ·rw [if_pos c27] at H
                 have c27b0 : decide (0 < x23_2) = true := decide_eq_true c27
                 clear c27
                 obtain ⟨ji28, hji28⟩ : ∃ j_ : Int, (wrap64 (x23_2 - 1)) = j_ := ⟨_, rfl⟩
                 replace H : (if 0 ≤ (ji28) then (if (ji28) < (x9_2.length : Int) then (if x23_2 < (l0_2.length : Int) then ((impl_field_mod.f t188 (wrap64 ((rd y199 (ji28)) + (wrap64 ((rd l0_2 x23_2) * (rd x1_1 x23_2)))))).bind fun t202 => (impl_Jacobi_walk.l1 k2 t188 (l1.length : Int) (y199.set ((ji28) : Int).toNat t202) a2 x17_1 x1_1 (x1_1.length : Int) ji22 a0_0 l0_1 l0_2)) else (none)) else (none)) else (none)) = some r := by first | (rw [hji28] at H; exact H) | (simp only [hji28] at H ⊢; exact H)
                 (try rw [hji28] at A19)
                 (try rw [hji28] at A25)
                 have hji28w : (IntKind.i64.wrap (x23_2 - 1)) = ji28 := (i64_w _).trans hji28
                 by_cases c29 : 0 ≤ (ji28)
                 ·rw [if_pos c29] at H
                  have c29b0 : decide (0 ≤ (ji28)) = true := decide_eq_true c29
                  clear c29
                  by_cases c30 : (ji28) < (x9_2.length : Int)
                  ·rw [if_pos c30] at H
                   have c30b0 : decide ((ji28) < (x9_2.length : Int)) = true := decide_eq_true c30
                   clear c30
                   by_cases c31 : x23_2 < (l0_2.length : Int)
                   ·rw [if_pos c31] at H
                    have c31b0 : decide (x23_2 < (l0_2.length : Int)) = true := decide_eq_true c31
                    clear c31
                    replace H := Option.bind_eq_some_iff.mp H
                    obtain ⟨t202, A320, H⟩ := H
                    replace H : (impl_Jacobi_walk.l1 k2 t188 (l1.length : Int) (y199.set ((ji28) : Int).toNat t202) a2 x17_1 x1_1 (x1_1.length : Int) ji22 a0_0 l0_1 l0_2) = some r := H
                    have A32 := Aside0.mk A320
                    clear A320
                    obtain ⟨y203, hy203⟩ : ∃ y_ : List Int, y_ = (y199.set ((ji28) : Int).toNat t202) := ⟨_, rfl⟩
                    replace H : (impl_Jacobi_walk.l1 k2 t188 (l1.length : Int) y203 a2 x17_1 x1_1 (x1_1.length : Int) ji22 a0_0 l0_1 l0_2) = some r := by first | (rw [hy203]; with_reducible exact H) | (have H2_ := (Option.bind_some _ _).symm.trans H; rw [hy203]; with_reducible exact H2_) | (have H2_ := (Option.bind_some _ _).symm.trans H; with_reducible exact H2_) | with_reducible exact H | (rw [hy203]; exact H) | exact H
                    have Ny203 := Aside0.mk hy203
                    clear hy203
                    have H' := Aside0.mk H
                    clear H
                    have p192 : 0 ≤ (x23_2 : Int) := of_decide_eq_true (by first | (with_reducible assumption) | assumption)
                    have q192 : x23_2 < (x1_1.length : Int) := of_decide_eq_true (by first | (with_reducible assumption) | assumption)
                    obtain ⟨ad192, e192, hx192_0⟩ := Kd.at_int (Kd.V_reads' HO_21.out).2.2 x23_2 p192 q192
                    cases e192
                    replace p192 := eq_true p192
                    replace q192 := eq_true q192
                    try go_wp2
                    have n0_ := Aside0.mk (Kd.R_drew HO_9.out)
                    have n1_ := Aside0.mk (Kd.V_drew HO_21.out)
                    have n2_ := Aside0.mk (blk_drew BK187.out)
                    have n3_ := Aside0.mk (below_drew1 HB.out)
                    clear HO_9
                    clear HO_21
                    clear BK187
                    clear HB
                    have HO_9 := n0_
                    have HO_21 := n1_
                    have BK187 := n2_
                    have HB := n3_
                    clear n0_ n1_ n2_ n3_
                    obtain ⟨Ao35, co35, eo35⟩ := Kd.R_slice HO_9.out
                    (first | subst eo35 | (injection eo35 with f1_ f2_ f3_; have f4_ := f1_.symm; have f5_ := f3_.symm; clear f1_ f2_ f3_; subst f4_; subst f5_))
                    have p193 : 0 ≤ (x23_2 : Int) := of_decide_eq_true (by first | (with_reducible assumption) | assumption)
                    have q193 : x23_2 < (x9_2.length : Int) := of_decide_eq_true (by first | (with_reducible assumption) | assumption)
                    obtain ⟨ad193, e193, hx193_0⟩ := Kd.at_int (Kd.R_reads' HO_9.out).2.2 x23_2 p193 q193
                    cases e193
                    replace p193 := eq_true p193
                    replace q193 := eq_true q193
                    have p194 : 0 ≤ (x23_2 : Int) := of_decide_eq_true (by first | (with_reducible assumption) | assumption)
                    have q194 : x23_2 < (l0_1.length : Int) := of_decide_eq_true (by first | (with_reducible assumption) | assumption)
                    obtain ⟨ad194, e194, hx194_0⟩ := Kd.at_int HR0_1.out x23_2 p194 q194
                    have hw194_0 := hx194_0
                    cases e194
                    replace hx194_0 := (HB.out.cell (World.block_lt_of_cell? w _ hx194_0)).trans hx194_0
                    replace p194 := eq_true p194
                    replace q194 := eq_true q194
                    refine start_ (n := 18) (S := fun w' => w'.cell? ⟨gb187, 0, none⟩ = some (.int .i64 a0_0) ∧ w'.cell? ⟨gb187, 1, none⟩ = some (.slice (some ad194) l0_1.length c0_1) ∧ w'.cell? ⟨gb187, 2, none⟩ = some (.slice A0_2 l0_2.length c0_2) ∧ w'.cell? (ad193.add (x23_2).toNat) = some (.int .i64 (rd x9_2 x23_2)) ∧ w'.cell? (ad194.add (x23_2).toNat) = some (.int .i64 (rd l0_1 x23_2))) (ds := [17]) #[false, false, false, false, false, false, false, false, false, false, false, false, false, false, false, false, false, false] (by kernel_rfl) rfl rfl ⟨(blk_cell BK187.out 0).trans rfl, (blk_cell BK187.out 1).trans rfl, (blk_cell BK187.out 2).trans rfl, hx193_0, ((HB.out.cell (World.block_lt_of_cell? w _ hw194_0)).trans hw194_0)⟩ (fun hHeld => ?_); refine with_tabW impl_Jacobi_walk.tab8 impl_Jacobi_walk.bits8 (fun HT_ HW_ => ?_)
                    generalize wr.drew = w34 at HO_9 HO_21 BK187 HB hx193_0 hx194_0 hHeld ⊢
                    refine Zpt 0 (some 28) (h := ?_)
                    refine Zpt 1 (some 29) (h := ?_)
                    refine Zpt 2 (some 30) (h := ?_)
                    refine Zpt 3 (some 31) (h := ?_)
                    refine Zpt 4 (some 32) (h := ?_)
                    refine Zpt 5 (some 33) (h := ?_)
                    refine Zpt 7 (some 35) (h := ?_)
                    refine Zpt 9 (some 37) (h := ?_)
                    refine Zpt 12 (some 40) (h := ?_)
                    refine ZtW5 6 (some 34) hHeld (h := ?_)
                    refine ZtW5 8 (some 36) hHeld (h := ?_)
                    refine Zpt 10 (some 38) (h := ?_)
                    refine ZtW5 11 (some 39) hHeld (h := ?_)
                    refine Zpt 13 (some 41) (h := ?_)
                    refine Zpt 14 (some 42) (h := ?_)
                    refine one_ (i := 15) (N := some 43) #[true, true, true, true, true, true, true, true, true, true, true, true, true, true, true, true, false, false] rfl rfl (one_of HT_.out (by kernel_rfl)) (by decide) (fun K hK => ?_)
                    refine goes_ Try.func97 (by kernel_rfl) rfl #[.int .i64 t188, .int .i64 (wrap64 ((rd x9_2 x23_2) + (wrap64 ((rd l0_1 x23_2) * (rd x1_1 x23_2)))))] (by rfl) rfl rfl ZA ?_
                    with_reducible refine (impl_field_mod.calls t188 (wrap64 ((rd x9_2 x23_2) + (wrap64 ((rd l0_1 x23_2) * (rd x1_1 x23_2))))) t195 _ A19.out).mono ?_
                    rintro e w' ⟨rfl, ⟨nd, rfl⟩⟩
                    refine ⟨_, rfl, ?_⟩
                    have p20 : 0 ≤ (x23_2 : Int) := of_decide_eq_true (by first | (with_reducible assumption) | assumption)
                    have q20 : (x23_2 : Int) < ((x9_2.length : Int) : Int) := of_decide_eq_true (by first | (with_reducible assumption) | assumption)
                    obtain ⟨go20, co20, eo20, gb20, gl20, cl20, HG20⟩ := Kd.R_form HO_9.out (by omega)
                    (first | cases eo20 | (injection eo20 with ea_ en_ ec_; (first | subst ea_ | (injection ea_ with ea_; subst ea_)); subst ec_; clear en_))
                    have GB20 := Aside0.mk gb20
                    have GG20 := Aside0.mk HG20
                    clear gb20 gl20 HG20
                    (first | simp only [add_plain] at hx193_0 | skip)
                    obtain ⟨hx20_0, hf20_0⟩ := Kd.R_celln 0 HO_9.out (x23_2 : Int) p20 q20
                    replace p20 := eq_true p20
                    replace q20 := eq_true q20
                    have HP36 := Kd.R_putn HO_9.out (x23_2 : Int) t195
                    rw [← Ny196.out] at HP36
                    have HQ36 := Aside0.mk HP36
                    clear HP36
                    refine hK.out _ _ ⟨(blk_cell BK187.out 0).trans rfl, (blk_cell BK187.out 1).trans rfl, (blk_cell BK187.out 2).trans rfl, hHeld.2.2.2.1, ((HB.out.cell (World.block_lt_of_cell? w _ hw194_0)).trans hw194_0)⟩ (fun hHeld => ?_)
                    clear hK K
                    refine norm_ (a' := ?_) ?_ ?_
                    rotate_left
                    ·show Act.put _ (some 43) _ = _
                     simp only [Act.put, List.setIfInBounds_toArray, List.set_cons_zero, List.set_cons_succ, i64_w, i32_w]
                     rfl
                    refine Zpt 16 (some 44) (h := ?_)
                    refine last_ (i := 17) (N := none) #[true, true, true, true, true, true, true, true, true, true, true, true, true, true, true, true, true, true] rfl rfl (one_of HT_.out (by kernel_rfl)) (by decide) (fun K hK => ?_)
                    refine skip_ (w1 := ?_) (by rfl) rfl ?_ ?_
                    rotate_left
                    ·go_simp
                     rfl
                    refine hK.out _ _ ?_
                    clear hK K
                    refine done_ (done_of HT_.out (by kernel_rfl)) ?_
                    have n0_ : Aside0 (Kd.R (Kd.int .i64) 2 (w34.setCell ⟨go20, (x23_2 : Int).toNat, none⟩ (.int .i64 t195)) w.heap.size (fun k_ => (w.heap.size ≤ k_)) (.slice (some ⟨go20, 0, none⟩) x9_2.length co35) y196) := ⟨ZR HQ36⟩
                    have n1_ : Aside0 (Kd.V (Kd.int .i64) 2 (w34.setCell ⟨go20, (x23_2 : Int).toNat, none⟩ (.int .i64 t195)) w.heap.size (fun k_ => (P1_ k_ ∨ w.heap.size ≤ k_) ∧ some k_ ≠ (.slice (some ⟨go20, 0, none⟩) x9_2.length co35 : Value).ownBlock ∧ k_ ≠ gb187) (.slice (some ad192) x1_1.length co13) x1_1) := ⟨by (with_reducible repeat (first | apply Kd.V_alloc | apply Kd.V_drewN | apply Kd.V_drew)); exact Kd.V_mono (Kd.V_far (p := ⟨go20, (x23_2 : Int).toNat, none⟩) (Kd.V_mono HO_21.out (fun k_ hk => (⟨hk, fun e_ => hk.2.1 (by rw [e_]; rfl)⟩ : _ ∧ k_ ≠ go20))) (fun _ hk => hk.2) (.int .i64 t195)) (fun _ hk => (And.intro (hk.1.1) ((And.intro (hk.1.2.1) (hk.1.2.2)))))⟩
                    have n2_ : Aside0 ((w34.setCell ⟨go20, (x23_2 : Int).toNat, none⟩ (.int .i64 t195)).heap[gb187]? = some (.cells #[.int .i64 a0_0, .slice (some ad194) l0_1.length c0_1, .slice A0_2 l0_2.length c0_2] 29 (0, 0))) := ⟨by refine ZS ?_; refine blk_far ?_ (by have h_ := Kd.R_ne HO_9.out BK187.out (by decide); intro e_; exact h_ (by rw [e_]; rfl)) _; refine ZS ?_; exact BK187.out⟩
                    have n3_ : Aside0 (Below w.heap.size w (w34.setCell ⟨go20, (x23_2 : Int).toNat, none⟩ (.int .i64 t195))) := ⟨by repeat (first | (with_reducible first | exact HB.out | apply below_alloc | apply pw_below_drewN | apply below_drew1 | refine below_set ?_ GB20.out | refine below_set ?_ GE187.out) | exact HB.out)⟩
                    (try clear HO_9)
                    (try clear HO_21)
                    (try clear BK187)
                    (try clear HB)
                    (first | (rw [show (World.drewN w34 nd).setCell ⟨go20, (x23_2 : Int).toNat, none⟩ (.int .i64 t195) = (w34.setCell ⟨go20, (x23_2 : Int).toNat, none⟩ (.int .i64 t195)).drewN nd from rfl]; replace n0_ := Aside0.mk (Kd.R_drewN n0_.out nd); replace n1_ := Aside0.mk (Kd.V_drewN n1_.out nd); replace n2_ := Aside0.mk (blk_drewN n2_.out nd); replace n3_ := Aside0.mk (pw_below_drewN n3_.out nd); generalize (w34.setCell ⟨go20, (x23_2 : Int).toNat, none⟩ (.int .i64 t195)).drewN nd = w37 at n0_ n1_ n2_ n3_ ⊢) | generalize (w34.setCell ⟨go20, (x23_2 : Int).toNat, none⟩ (.int .i64 t195)) = w37 at n0_ n1_ n2_ n3_ ⊢)
                    have HO_9 := n0_
                    have HO_21 := n1_
                    have BK187 := n2_
                    have HB := n3_
                    clear n0_ n1_ n2_ n3_
                    have p197 : 0 ≤ ((ji22) : Int) := of_decide_eq_true (by first | (with_reducible assumption) | assumption)
                    have q197 : (ji22) < (y196.length : Int) := (by have h_ : ((ji22) : Int) < ((x9_2.length : Int) : Int) := of_decide_eq_true (by first | (with_reducible assumption) | assumption); first | (have e_ := (Kd.R_reads' HO_9.out).1; omega) | simpa only [Ny196.out, List.length_set] using h_)
                    have ql197 : (((ji22) : Int) < ((x9_2.length : Int) : Int)) = True := eq_true (of_decide_eq_true (by first | (with_reducible assumption) | assumption))
                    obtain ⟨ad197, e197, hx197_0⟩ := Kd.at_int (Kd.R_reads' HO_9.out).2.2 (ji22) p197 q197
                    obtain rfl : (⟨go20, 0, none⟩ : Addr) = ad197 := (by injection e197)
                    (first | simp only [add_plain] at hx197_0 | simp only [add_at] at hx197_0 | simp only [Addr.add, Nat.zero_add] at hx197_0 | skip)
                    replace p197 := eq_true p197
                    replace q197 := eq_true q197
                    try go_wp2_with (first | ((with_reducible refine gate_callee (f := 97) rfl ?_); refine goesL_ (some 60) rfl rfl Try.func97 (by kernel_rfl) rfl #[.int .i64 t188, .int .i64 (wrap64 ((rd y196 (ji22)) + (rd x1_1 x23_2)))] rfl (by (try simp only [List.map_toArray, List.map_cons, List.map_nil]); first | done | (simp only [hji22]; rfl) | rfl | (simp only [List.length_drop, List.length_take]; rfl)) ?_; (with_reducible refine (impl_field_mod.calls t188 (wrap64 ((rd y196 (ji22)) + (rd x1_1 x23_2))) t198 _ A25.out).mono ?_); rintro e w' ⟨rfl, ⟨nd, rfl⟩⟩; refine ⟨_, rfl, ?_⟩; (try (rw [drewN_self w37]; generalize hq_ : World.drewN w37 _ = w37; have n0_ : Aside0 (Kd.V (Kd.int .i64) 2 w37 w.heap.size (fun k_ => (P1_ k_ ∨ w.heap.size ≤ k_) ∧ some k_ ≠ (.slice (some ⟨go20, 0, none⟩) x9_2.length co35 : Value).ownBlock ∧ k_ ≠ gb187) (.slice (some ad192) x1_1.length co13) x1_1) := ⟨by rw [← hq_]; exact (by (with_reducible repeat (first | apply Kd.V_alloc | apply Kd.V_drewN | apply Kd.V_drew)); exact HO_21.out)⟩; have n1_ : Aside0 (Kd.R (Kd.int .i64) 2 w37 w.heap.size (fun k_ => (w.heap.size ≤ k_)) (.slice (some ⟨go20, 0, none⟩) x9_2.length co35) y196) := ⟨by rw [← hq_]; exact (ZR HO_9)⟩; have n2_ : Aside0 (w37.heap[gb187]? = some (.cells #[.int .i64 a0_0, .slice (some ad194) l0_1.length c0_1, .slice A0_2 l0_2.length c0_2] 29 (0, 0))) := ⟨by rw [← hq_]; exact (ZK BK187)⟩; have n3_ : Aside0 (Below w.heap.size w w37) := ⟨by rw [← hq_]; exact ZB⟩; clear HO_21 HO_9 BK187 HB hq_; have HO_21 := n0_; have HO_9 := n1_; have BK187 := n2_; have HB := n3_; clear n0_ n1_ n2_ n3_)); (try (obtain ⟨hcy187_0, hcy187_1, hcy187_2, hfy187_0, hfy187_1, hfy187_2⟩ := ZD3 BK187)); have p26 : 0 ≤ ((ji22) : Int) := of_decide_eq_true (by first | (with_reducible assumption) | assumption); have q26 : ((ji22) : Int) < ((x9_2.length : Int) : Int) := of_decide_eq_true (by first | (with_reducible assumption) | assumption); obtain ⟨hx26_0, hf26_0⟩ := Kd.R_celln 0 HO_9.out ((ji22) : Int) p26 q26; replace p26 := eq_true p26; replace q26 := eq_true q26; obtain ⟨hy38_, hz38_⟩ := Kd.R_celln 0 HO_9.out ((ji22) : Int) (of_decide_eq_true (by first | (with_reducible assumption) | assumption)) (of_decide_eq_true (by first | (with_reducible assumption) | assumption)); have HP38 := Kd.R_putg HO_9.out ((ji22) : Int) t198) | ((with_reducible refine gate_store (t := 2) (p := 61) rfl ?_); refine store_event (t := 2) (p := 61) (v := ?vo_w39) (w1 := (w37.setCell ⟨go20, ((ji22) : Int).toNat, none⟩ (.int .i64 t198))) ?hg ?ho ?hn ?hr ?_; (case ho => rfl); (case hg => rfl); (case hn => rfl); (case hr => first | (go_simp; done) | (go_simp; rfl)); intro w39 hw; have hg : w37.grownBy w39 (some go20) := (by rw [hw]; exact HP38.2); have hp_ : Kd.R (Kd.int .i64) 2 w39 w.heap.size (fun k_ => (w.heap.size ≤ k_)) (.slice (some ⟨go20, 0, none⟩) x9_2.length co35) y199 := (by rw [hw, Ny199.out]; exact HP38.1); clear HP38; have n0_ := Aside0.mk (hp_); have n1_ := Aside0.mk (Kd.V_afterv (v := (.slice (some ⟨go20, 0, none⟩) x9_2.length co35)) (v1 := (.slice (some ⟨go20, 0, none⟩) x9_2.length co35)) (ok := (fun k_ => (P1_ k_ ∨ w.heap.size ≤ k_) ∧ k_ ≠ gb187)) (by (with_reducible repeat (first | apply Kd.V_alloc | apply Kd.V_drewN | apply Kd.V_drew)); exact Kd.V_mono HO_21.out (fun _ hk => (And.intro ((And.intro (hk.1) (hk.2.2))) (hk.2.1)))) hg (.inl rfl)); have n2_ := Aside0.mk (blk_grown (ZK BK187) hg (Kd.R_ne HO_9.out BK187.out (by decide))); have n3_ := Aside0.mk ((by rw [hw]; exact below_set (HB.out) GB20.out : Below w.heap.size w w39)); clear HO_9; clear HO_21; clear BK187; clear HB; have HO_9 := n0_; have HO_21 := n1_; have BK187 := n2_; have HB := n3_; clear n0_ n1_ n2_ n3_; clear hg hw hp_))
                    have n0_ := Aside0.mk (Kd.R_drew HO_9.out)
                    have n1_ := Aside0.mk (Kd.V_drew HO_21.out)
                    have n2_ := Aside0.mk (blk_drew BK187.out)
                    have n3_ := Aside0.mk (below_drew1 HB.out)
                    clear HO_9
                    clear HO_21
                    clear BK187
                    clear HB
                    have HO_9 := n0_
                    have HO_21 := n1_
                    have BK187 := n2_
                    have HB := n3_
                    clear n0_ n1_ n2_ n3_
                    have p200 : 0 ≤ ((ji28) : Int) := of_decide_eq_true (by first | (with_reducible assumption) | assumption)
                    have q200 : (ji28) < (y199.length : Int) := (by have h_ : ((ji28) : Int) < ((x9_2.length : Int) : Int) := of_decide_eq_true (by first | (with_reducible assumption) | assumption); first | (have e_ := (Kd.R_reads' HO_9.out).1; omega) | simpa only [Ny196.out, Ny199.out, List.length_set] using h_)
                    have ql200 : (((ji28) : Int) < ((x9_2.length : Int) : Int)) = True := eq_true (of_decide_eq_true (by first | (with_reducible assumption) | assumption))
                    obtain ⟨ad200, e200, hx200_0⟩ := Kd.at_int (Kd.R_reads' HO_9.out).2.2 (ji28) p200 q200
                    obtain rfl : (⟨go20, 0, none⟩ : Addr) = ad200 := (by injection e200)
                    (first | simp only [add_plain] at hx200_0 | simp only [add_at] at hx200_0 | simp only [Addr.add, Nat.zero_add] at hx200_0 | skip)
                    replace p200 := eq_true p200
                    replace q200 := eq_true q200
                    have p201 : 0 ≤ (x23_2 : Int) := of_decide_eq_true (by first | (with_reducible assumption) | assumption)
                    have q201 : x23_2 < (l0_2.length : Int) := of_decide_eq_true (by first | (with_reducible assumption) | assumption)
                    obtain ⟨ad201, e201, hx201_0⟩ := Kd.at_int HR0_2.out x23_2 p201 q201
                    have hw201_0 := hx201_0
                    cases e201
                    replace hx201_0 := (HB.out.cell (World.block_lt_of_cell? w _ hx201_0)).trans hx201_0
                    replace p201 := eq_true p201
                    replace q201 := eq_true q201
                    refine start_ (n := 20) (S := fun w' => w'.cell? ⟨gb187, 0, none⟩ = some (.int .i64 a0_0) ∧ w'.cell? ⟨gb187, 1, none⟩ = some (.slice (some ad194) l0_1.length c0_1) ∧ w'.cell? ⟨gb187, 2, none⟩ = some (.slice (some ad201) l0_2.length c0_2) ∧ w'.cell? ⟨go20, ((ji28)).toNat, none⟩ = some (.int .i64 (rd y199 (ji28))) ∧ w'.cell? (ad201.add (x23_2).toNat) = some (.int .i64 (rd l0_2 x23_2))) (ds := [19]) #[false, false, false, false, false, false, false, false, false, false, false, false, false, false, false, false, false, false, false, false] (by kernel_rfl) rfl rfl ⟨(blk_cell BK187.out 0).trans rfl, (blk_cell BK187.out 1).trans rfl, (blk_cell BK187.out 2).trans rfl, hx200_0, ((HB.out.cell (World.block_lt_of_cell? w _ hw201_0)).trans hw201_0)⟩ (fun hHeld => ?_); refine with_tabW impl_Jacobi_walk.tab12 impl_Jacobi_walk.bits12 (fun HT_ HW_ => ?_)
                    generalize w39.drew = w40 at HO_9 HO_21 BK187 HB hx200_0 hx201_0 hHeld ⊢
                    refine Zpt 0 (some 64) (h := ?_)
                    refine Zpt 1 (some 65) (h := ?_)
                    refine Zpt 2 (some 66) (h := ?_)
                    refine Zpt 3 (some 67) (h := ?_)
                    refine Zpt 4 (some 68) (h := ?_)
                    refine Zpt 5 (some 69) (h := ?_)
                    refine Zpt 6 (some 70) (h := ?_)
                    refine Zpt 7 (some 71) (h := ?_)
                    refine Zpt 9 (some 73) (h := ?_)
                    refine Zpt 11 (some 75) (h := ?_)
                    refine Zpt 14 (some 78) (h := ?_)
                    refine ZtW5 8 (some 72) hHeld (h := ?_)
                    refine ZtW5 10 (some 74) hHeld (h := ?_)
                    refine Zpt 12 (some 76) (h := ?_)
                    refine ZtW5 13 (some 77) hHeld (h := ?_)
                    refine Zpt 15 (some 79) (h := ?_)
                    refine Zpt 16 (some 80) (h := ?_)
                    refine one_ (i := 17) (N := some 81) #[true, true, true, true, true, true, true, true, true, true, true, true, true, true, true, true, true, true, false, false] rfl rfl (one_of HT_.out (by kernel_rfl)) (by decide) (fun K hK => ?_)
                    refine goes_ Try.func97 (by kernel_rfl) rfl #[.int .i64 t188, .int .i64 (wrap64 ((rd y199 (ji28)) + (wrap64 ((rd l0_2 x23_2) * (rd x1_1 x23_2)))))] (by rfl) rfl rfl (by (try simp only [List.map_toArray, List.map_cons, List.map_nil]); first | done | (simp only [hji28]; rfl) | rfl | (simp only [List.length_drop, List.length_take]; rfl)) ?_
                    with_reducible refine (impl_field_mod.calls t188 (wrap64 ((rd y199 (ji28)) + (wrap64 ((rd l0_2 x23_2) * (rd x1_1 x23_2))))) t202 _ A32.out).mono ?_
                    rintro e w' ⟨rfl, ⟨nd, rfl⟩⟩
                    refine ⟨_, rfl, ?_⟩
                    have p33 : 0 ≤ ((ji28) : Int) := of_decide_eq_true (by first | (with_reducible assumption) | assumption)
                    have q33 : ((ji28) : Int) < ((x9_2.length : Int) : Int) := of_decide_eq_true (by first | (with_reducible assumption) | assumption)
                    obtain ⟨hx33_0, hf33_0⟩ := Kd.R_celln 0 HO_9.out ((ji28) : Int) p33 q33
                    replace p33 := eq_true p33
                    replace q33 := eq_true q33
                    have HP41 := Kd.R_putn HO_9.out ((ji28) : Int) t202
                    rw [← Ny203.out] at HP41
                    have HQ41 := Aside0.mk HP41
                    clear HP41
                    refine hK.out _ _ ⟨(blk_cell BK187.out 0).trans rfl, (blk_cell BK187.out 1).trans rfl, (blk_cell BK187.out 2).trans rfl, hHeld.2.2.2.1, ((HB.out.cell (World.block_lt_of_cell? w _ hw201_0)).trans hw201_0)⟩ (fun hHeld => ?_)
                    clear hK K
                    refine norm_ (a' := ?_) ?_ ?_
                    rotate_left
                    ·show Act.put _ (some 81) _ = _
                     simp only [Act.put, List.setIfInBounds_toArray, List.set_cons_zero, List.set_cons_succ, i64_w, i32_w]
                     rfl
                    refine Zpt 18 (some 82) (h := ?_)
                    refine last_ (i := 19) (N := none) #[true, true, true, true, true, true, true, true, true, true, true, true, true, true, true, true, true, true, true, true] rfl rfl (one_of HT_.out (by kernel_rfl)) (by decide) (fun K hK => ?_)
                    refine skip_ (w1 := ?_) (by rfl) rfl ?_ ?_
                    rotate_left
                    ·go_simp
                     rfl
                    refine hK.out _ _ ?_
                    clear hK K
                    refine done_ (done_of HT_.out (by kernel_rfl)) ?_
                    try go_wp2
                    go_roundg k2
                    case measure => have := HK1.out; have := HK2.out; omega
                    case rel => exact ⟨(y203), (ji22), (by first | rfl | (simp; done) | (simp only [← hji22] <;> (first | rfl | simp)) | (simp [*]; done)), H', ⟨by have := HK1.out; have := HK2.out; omega⟩, ⟨ZR HQ41⟩, ⟨by (with_reducible repeat (first | apply Kd.V_alloc | apply Kd.V_drewN | apply Kd.V_drew)); exact Kd.V_mono (Kd.V_far (p := ⟨go20, ((ji28) : Int).toNat, none⟩) (Kd.V_mono HO_21.out (fun k_ hk => (⟨hk, fun e_ => hk.2 (by rw [e_]; rfl)⟩ : _ ∧ k_ ≠ go20))) (fun _ hk => hk.2) (.int .i64 t202)) (fun _ hk => (And.intro (hk.1.1.1) ((And.intro (hk.1.2) (hk.1.1.2)))))⟩, ⟨by refine ZS ?_; refine blk_far ?_ (by have h_ := Kd.R_ne HO_9.out BK187.out (by decide); intro e_; exact h_ (by rw [e_]; rfl)) _; refine ZS ?_; exact BK187.out⟩, ⟨by repeat (first | (with_reducible first | exact HB.out | apply below_alloc | apply pw_below_drewN | apply below_drew1 | refine below_set ?_ GB20.out | refine below_set ?_ GE187.out) | exact HB.out)⟩⟩
                   ·rw [if_neg c31] at H
                    exact absurd H (by simp)
                  ·rw [if_neg c30] at H
                   exact absurd H (by simp)
                 ·rw [if_neg c29] at H
                  exact absurd H (by simp)
                ·rw [if_neg c27] at H
                 have c27b0 : decide (0 < x23_2) = false := decide_eq_false c27
                 clear c27
                 have H' := Aside0.mk H
                 clear H
                 have p192 : 0 ≤ (x23_2 : Int) := of_decide_eq_true (by first | (with_reducible assumption) | assumption)
                 have q192 : x23_2 < (x1_1.length : Int) := of_decide_eq_true (by first | (with_reducible assumption) | assumption)
                 obtain ⟨ad192, e192, hx192_0⟩ := Kd.at_int (Kd.V_reads' HO_21.out).2.2 x23_2 p192 q192
                 cases e192
                 replace p192 := eq_true p192
                 replace q192 := eq_true q192
                 try go_wp2
                 have n0_ := Aside0.mk (Kd.R_drew HO_9.out)
                 have n1_ := Aside0.mk (Kd.V_drew HO_21.out)
                 have n2_ := Aside0.mk (blk_drew BK187.out)
                 have n3_ := Aside0.mk (below_drew1 HB.out)
                 clear HO_9
                 clear HO_21
                 clear BK187
                 clear HB
                 have HO_9 := n0_
                 have HO_21 := n1_
                 have BK187 := n2_
                 have HB := n3_
                 clear n0_ n1_ n2_ n3_
                 obtain ⟨Ao43, co43, eo43⟩ := Kd.R_slice HO_9.out
                 (first | subst eo43 | (injection eo43 with f1_ f2_ f3_; have f4_ := f1_.symm; have f5_ := f3_.symm; clear f1_ f2_ f3_; subst f4_; subst f5_))
                 have p193 : 0 ≤ (x23_2 : Int) := of_decide_eq_true (by first | (with_reducible assumption) | assumption)
                 have q193 : x23_2 < (x9_2.length : Int) := of_decide_eq_true (by first | (with_reducible assumption) | assumption)
                 obtain ⟨ad193, e193, hx193_0⟩ := Kd.at_int (Kd.R_reads' HO_9.out).2.2 x23_2 p193 q193
                 cases e193
                 replace p193 := eq_true p193
                 replace q193 := eq_true q193
                 have p194 : 0 ≤ (x23_2 : Int) := of_decide_eq_true (by first | (with_reducible assumption) | assumption)
                 have q194 : x23_2 < (l0_1.length : Int) := of_decide_eq_true (by first | (with_reducible assumption) | assumption)
                 obtain ⟨ad194, e194, hx194_0⟩ := Kd.at_int HR0_1.out x23_2 p194 q194
                 have hw194_0 := hx194_0
                 cases e194
                 replace hx194_0 := (HB.out.cell (World.block_lt_of_cell? w _ hx194_0)).trans hx194_0
                 replace p194 := eq_true p194
                 replace q194 := eq_true q194
                 refine start_ (n := 18) (S := fun w' => w'.cell? ⟨gb187, 0, none⟩ = some (.int .i64 a0_0) ∧ w'.cell? ⟨gb187, 1, none⟩ = some (.slice (some ad194) l0_1.length c0_1) ∧ w'.cell? ⟨gb187, 2, none⟩ = some (.slice A0_2 l0_2.length c0_2) ∧ w'.cell? (ad193.add (x23_2).toNat) = some (.int .i64 (rd x9_2 x23_2)) ∧ w'.cell? (ad194.add (x23_2).toNat) = some (.int .i64 (rd l0_1 x23_2))) (ds := [17]) #[false, false, false, false, false, false, false, false, false, false, false, false, false, false, false, false, false, false] (by kernel_rfl) rfl rfl ⟨(blk_cell BK187.out 0).trans rfl, (blk_cell BK187.out 1).trans rfl, (blk_cell BK187.out 2).trans rfl, hx193_0, ((HB.out.cell (World.block_lt_of_cell? w _ hw194_0)).trans hw194_0)⟩ (fun hHeld => ?_); refine with_tabW impl_Jacobi_walk.tab8 impl_Jacobi_walk.bits8 (fun HT_ HW_ => ?_)
                 generalize wr.drew = w42 at HO_9 HO_21 BK187 HB hx193_0 hx194_0 hHeld ⊢
                 refine Zpt 0 (some 28) (h := ?_)
                 refine Zpt 1 (some 29) (h := ?_)
                 refine Zpt 2 (some 30) (h := ?_)
                 refine Zpt 3 (some 31) (h := ?_)
                 refine Zpt 4 (some 32) (h := ?_)
                 refine Zpt 5 (some 33) (h := ?_)
                 refine Zpt 7 (some 35) (h := ?_)
                 refine Zpt 9 (some 37) (h := ?_)
                 refine Zpt 12 (some 40) (h := ?_)
                 refine ZtW5 6 (some 34) hHeld (h := ?_)
                 refine ZtW5 8 (some 36) hHeld (h := ?_)
                 refine Zpt 10 (some 38) (h := ?_)
                 refine ZtW5 11 (some 39) hHeld (h := ?_)
                 refine Zpt 13 (some 41) (h := ?_)
                 refine Zpt 14 (some 42) (h := ?_)
                 refine one_ (i := 15) (N := some 43) #[true, true, true, true, true, true, true, true, true, true, true, true, true, true, true, true, false, false] rfl rfl (one_of HT_.out (by kernel_rfl)) (by decide) (fun K hK => ?_)
                 refine goes_ Try.func97 (by kernel_rfl) rfl #[.int .i64 t188, .int .i64 (wrap64 ((rd x9_2 x23_2) + (wrap64 ((rd l0_1 x23_2) * (rd x1_1 x23_2)))))] (by rfl) rfl rfl ZA ?_
                 with_reducible refine (impl_field_mod.calls t188 (wrap64 ((rd x9_2 x23_2) + (wrap64 ((rd l0_1 x23_2) * (rd x1_1 x23_2))))) t195 _ A19.out).mono ?_
                 rintro e w' ⟨rfl, ⟨nd, rfl⟩⟩
                 refine ⟨_, rfl, ?_⟩
                 have p20 : 0 ≤ (x23_2 : Int) := of_decide_eq_true (by first | (with_reducible assumption) | assumption)
                 have q20 : (x23_2 : Int) < ((x9_2.length : Int) : Int) := of_decide_eq_true (by first | (with_reducible assumption) | assumption)
                 obtain ⟨go20, co20, eo20, gb20, gl20, cl20, HG20⟩ := Kd.R_form HO_9.out (by omega)
                 (first | cases eo20 | (injection eo20 with ea_ en_ ec_; (first | subst ea_ | (injection ea_ with ea_; subst ea_)); subst ec_; clear en_))
                 have GB20 := Aside0.mk gb20
                 have GG20 := Aside0.mk HG20
                 clear gb20 gl20 HG20
                 (first | simp only [add_plain] at hx193_0 | skip)
                 obtain ⟨hx20_0, hf20_0⟩ := Kd.R_celln 0 HO_9.out (x23_2 : Int) p20 q20
                 replace p20 := eq_true p20
                 replace q20 := eq_true q20
                 have HP44 := Kd.R_putn HO_9.out (x23_2 : Int) t195
                 rw [← Ny196.out] at HP44
                 have HQ44 := Aside0.mk HP44
                 clear HP44
                 refine hK.out _ _ ⟨(blk_cell BK187.out 0).trans rfl, (blk_cell BK187.out 1).trans rfl, (blk_cell BK187.out 2).trans rfl, hHeld.2.2.2.1, ((HB.out.cell (World.block_lt_of_cell? w _ hw194_0)).trans hw194_0)⟩ (fun hHeld => ?_)
                 clear hK K
                 refine norm_ (a' := ?_) ?_ ?_
                 rotate_left
                 ·show Act.put _ (some 43) _ = _
                  simp only [Act.put, List.setIfInBounds_toArray, List.set_cons_zero, List.set_cons_succ, i64_w, i32_w]
                  rfl
                 refine Zpt 16 (some 44) (h := ?_)
                 refine last_ (i := 17) (N := none) #[true, true, true, true, true, true, true, true, true, true, true, true, true, true, true, true, true, true] rfl rfl (one_of HT_.out (by kernel_rfl)) (by decide) (fun K hK => ?_)
                 refine skip_ (w1 := ?_) (by rfl) rfl ?_ ?_
                 rotate_left
                 ·go_simp
                  rfl
                 refine hK.out _ _ ?_
                 clear hK K
                 refine done_ (done_of HT_.out (by kernel_rfl)) ?_
                 have n0_ : Aside0 (Kd.R (Kd.int .i64) 2 (w42.setCell ⟨go20, (x23_2 : Int).toNat, none⟩ (.int .i64 t195)) w.heap.size (fun k_ => (w.heap.size ≤ k_)) (.slice (some ⟨go20, 0, none⟩) x9_2.length co43) y196) := ⟨ZR HQ44⟩
                 have n1_ : Aside0 (Kd.V (Kd.int .i64) 2 (w42.setCell ⟨go20, (x23_2 : Int).toNat, none⟩ (.int .i64 t195)) w.heap.size (fun k_ => (P1_ k_ ∨ w.heap.size ≤ k_) ∧ some k_ ≠ (.slice (some ⟨go20, 0, none⟩) x9_2.length co43 : Value).ownBlock ∧ k_ ≠ gb187) (.slice (some ad192) x1_1.length co13) x1_1) := ⟨by (with_reducible repeat (first | apply Kd.V_alloc | apply Kd.V_drewN | apply Kd.V_drew)); exact Kd.V_mono (Kd.V_far (p := ⟨go20, (x23_2 : Int).toNat, none⟩) (Kd.V_mono HO_21.out (fun k_ hk => (⟨hk, fun e_ => hk.2.1 (by rw [e_]; rfl)⟩ : _ ∧ k_ ≠ go20))) (fun _ hk => hk.2) (.int .i64 t195)) (fun _ hk => (And.intro (hk.1.1) ((And.intro (hk.1.2.1) (hk.1.2.2)))))⟩
                 have n2_ : Aside0 ((w42.setCell ⟨go20, (x23_2 : Int).toNat, none⟩ (.int .i64 t195)).heap[gb187]? = some (.cells #[.int .i64 a0_0, .slice (some ad194) l0_1.length c0_1, .slice A0_2 l0_2.length c0_2] 29 (0, 0))) := ⟨by refine ZS ?_; refine blk_far ?_ (by have h_ := Kd.R_ne HO_9.out BK187.out (by decide); intro e_; exact h_ (by rw [e_]; rfl)) _; refine ZS ?_; exact BK187.out⟩
                 have n3_ : Aside0 (Below w.heap.size w (w42.setCell ⟨go20, (x23_2 : Int).toNat, none⟩ (.int .i64 t195))) := ⟨by repeat (first | (with_reducible first | exact HB.out | apply below_alloc | apply pw_below_drewN | apply below_drew1 | refine below_set ?_ GB20.out | refine below_set ?_ GE187.out) | exact HB.out)⟩
                 (try clear HO_9)
                 (try clear HO_21)
                 (try clear BK187)
                 (try clear HB)
                 (first | (rw [show (World.drewN w42 nd).setCell ⟨go20, (x23_2 : Int).toNat, none⟩ (.int .i64 t195) = (w42.setCell ⟨go20, (x23_2 : Int).toNat, none⟩ (.int .i64 t195)).drewN nd from rfl]; replace n0_ := Aside0.mk (Kd.R_drewN n0_.out nd); replace n1_ := Aside0.mk (Kd.V_drewN n1_.out nd); replace n2_ := Aside0.mk (blk_drewN n2_.out nd); replace n3_ := Aside0.mk (pw_below_drewN n3_.out nd); generalize (w42.setCell ⟨go20, (x23_2 : Int).toNat, none⟩ (.int .i64 t195)).drewN nd = w45 at n0_ n1_ n2_ n3_ ⊢) | generalize (w42.setCell ⟨go20, (x23_2 : Int).toNat, none⟩ (.int .i64 t195)) = w45 at n0_ n1_ n2_ n3_ ⊢)
                 have HO_9 := n0_
                 have HO_21 := n1_
                 have BK187 := n2_
                 have HB := n3_
                 clear n0_ n1_ n2_ n3_
                 have p197 : 0 ≤ ((ji22) : Int) := of_decide_eq_true (by first | (with_reducible assumption) | assumption)
                 have q197 : (ji22) < (y196.length : Int) := (by have h_ : ((ji22) : Int) < ((x9_2.length : Int) : Int) := of_decide_eq_true (by first | (with_reducible assumption) | assumption); first | (have e_ := (Kd.R_reads' HO_9.out).1; omega) | simpa only [Ny196.out, List.length_set] using h_)
                 have ql197 : (((ji22) : Int) < ((x9_2.length : Int) : Int)) = True := eq_true (of_decide_eq_true (by first | (with_reducible assumption) | assumption))
                 obtain ⟨ad197, e197, hx197_0⟩ := Kd.at_int (Kd.R_reads' HO_9.out).2.2 (ji22) p197 q197
                 obtain rfl : (⟨go20, 0, none⟩ : Addr) = ad197 := (by injection e197)
                 (first | simp only [add_plain] at hx197_0 | simp only [add_at] at hx197_0 | simp only [Addr.add, Nat.zero_add] at hx197_0 | skip)
                 replace p197 := eq_true p197
                 replace q197 := eq_true q197
                 try go_wp2_with (first | ((with_reducible refine gate_callee (f := 97) rfl ?_); refine goesL_ (some 60) rfl rfl Try.func97 (by kernel_rfl) rfl #[.int .i64 t188, .int .i64 (wrap64 ((rd y196 (ji22)) + (rd x1_1 x23_2)))] rfl (by (try simp only [List.map_toArray, List.map_cons, List.map_nil]); first | done | (simp only [hji22]; rfl) | rfl | (simp only [List.length_drop, List.length_take]; rfl)) ?_; (with_reducible refine (impl_field_mod.calls t188 (wrap64 ((rd y196 (ji22)) + (rd x1_1 x23_2))) t198 _ A25.out).mono ?_); rintro e w' ⟨rfl, ⟨nd, rfl⟩⟩; refine ⟨_, rfl, ?_⟩; (try (rw [drewN_self w45]; generalize hq_ : World.drewN w45 _ = w45; have n0_ : Aside0 (Kd.V (Kd.int .i64) 2 w45 w.heap.size (fun k_ => (P1_ k_ ∨ w.heap.size ≤ k_) ∧ some k_ ≠ (.slice (some ⟨go20, 0, none⟩) x9_2.length co43 : Value).ownBlock ∧ k_ ≠ gb187) (.slice (some ad192) x1_1.length co13) x1_1) := ⟨by rw [← hq_]; exact (by (with_reducible repeat (first | apply Kd.V_alloc | apply Kd.V_drewN | apply Kd.V_drew)); exact HO_21.out)⟩; have n1_ : Aside0 (Kd.R (Kd.int .i64) 2 w45 w.heap.size (fun k_ => (w.heap.size ≤ k_)) (.slice (some ⟨go20, 0, none⟩) x9_2.length co43) y196) := ⟨by rw [← hq_]; exact (ZR HO_9)⟩; have n2_ : Aside0 (w45.heap[gb187]? = some (.cells #[.int .i64 a0_0, .slice (some ad194) l0_1.length c0_1, .slice A0_2 l0_2.length c0_2] 29 (0, 0))) := ⟨by rw [← hq_]; exact (ZK BK187)⟩; have n3_ : Aside0 (Below w.heap.size w w45) := ⟨by rw [← hq_]; exact ZB⟩; clear HO_21 HO_9 BK187 HB hq_; have HO_21 := n0_; have HO_9 := n1_; have BK187 := n2_; have HB := n3_; clear n0_ n1_ n2_ n3_)); (try (obtain ⟨hcy187_0, hcy187_1, hcy187_2, hfy187_0, hfy187_1, hfy187_2⟩ := ZD3 BK187)); have p26 : 0 ≤ ((ji22) : Int) := of_decide_eq_true (by first | (with_reducible assumption) | assumption); have q26 : ((ji22) : Int) < ((x9_2.length : Int) : Int) := of_decide_eq_true (by first | (with_reducible assumption) | assumption); obtain ⟨hx26_0, hf26_0⟩ := Kd.R_celln 0 HO_9.out ((ji22) : Int) p26 q26; replace p26 := eq_true p26; replace q26 := eq_true q26; obtain ⟨hy46_, hz46_⟩ := Kd.R_celln 0 HO_9.out ((ji22) : Int) (of_decide_eq_true (by first | (with_reducible assumption) | assumption)) (of_decide_eq_true (by first | (with_reducible assumption) | assumption)); have HP46 := Kd.R_putg HO_9.out ((ji22) : Int) t198) | ((with_reducible refine gate_store (t := 2) (p := 61) rfl ?_); refine store_event (t := 2) (p := 61) (v := ?vo_w47) (w1 := (w45.setCell ⟨go20, ((ji22) : Int).toNat, none⟩ (.int .i64 t198))) ?hg ?ho ?hn ?hr ?_; (case ho => rfl); (case hg => rfl); (case hn => rfl); (case hr => first | (go_simp; done) | (go_simp; rfl)); intro w47 hw; have hg : w45.grownBy w47 (some go20) := (by rw [hw]; exact HP46.2); have hp_ : Kd.R (Kd.int .i64) 2 w47 w.heap.size (fun k_ => (w.heap.size ≤ k_)) (.slice (some ⟨go20, 0, none⟩) x9_2.length co43) y199 := (by rw [hw, Ny199.out]; exact HP46.1); clear HP46; have n0_ := Aside0.mk (hp_); have n1_ := Aside0.mk (Kd.V_afterv (v := (.slice (some ⟨go20, 0, none⟩) x9_2.length co43)) (v1 := (.slice (some ⟨go20, 0, none⟩) x9_2.length co43)) (ok := (fun k_ => (P1_ k_ ∨ w.heap.size ≤ k_) ∧ k_ ≠ gb187)) (by (with_reducible repeat (first | apply Kd.V_alloc | apply Kd.V_drewN | apply Kd.V_drew)); exact Kd.V_mono HO_21.out (fun _ hk => (And.intro ((And.intro (hk.1) (hk.2.2))) (hk.2.1)))) hg (.inl rfl)); have n2_ := Aside0.mk (blk_grown (ZK BK187) hg (Kd.R_ne HO_9.out BK187.out (by decide))); have n3_ := Aside0.mk ((by rw [hw]; exact below_set (HB.out) GB20.out : Below w.heap.size w w47)); clear HO_9; clear HO_21; clear BK187; clear HB; have HO_9 := n0_; have HO_21 := n1_; have BK187 := n2_; have HB := n3_; clear n0_ n1_ n2_ n3_; clear hg hw hp_))
                 go_roundg k2
                 case measure => have := HK1.out; have := HK2.out; omega
                 case rel => exact ⟨(y199), (ji22), (by first | rfl | (simp; done) | (simp only [← hji22] <;> (first | rfl | simp)) | (simp [*]; done)), H', ⟨by have := HK1.out; have := HK2.out; omega⟩, ⟨ZR HO_9⟩, ⟨by (with_reducible repeat (first | apply Kd.V_alloc | apply Kd.V_drewN | apply Kd.V_drew)); exact Kd.V_mono HO_21.out (fun _ hk => (And.intro (hk.1.1) ((And.intro (hk.2) (hk.1.2)))))⟩, ⟨ZK BK187⟩, ⟨ZB⟩⟩
               ·rw [if_neg c24] at H
                exact absurd H (by simp)
              ·rw [if_neg c23] at H
               exact absurd H (by simp)
             ·rw [if_neg c21] at H
              have c21b0 : decide ((wrap64 (x23_2 + 1)) < (l1.length : Int)) = false := decide_eq_false c21
              clear c21
              by_cases c48 : x23_2 > 0
              ·rw [if_pos c48] at H
               have c48b0 : decide (0 < x23_2) = true := decide_eq_true c48
               clear c48
               obtain ⟨ji49, hji49⟩ : ∃ j_ : Int, (wrap64 (x23_2 - 1)) = j_ := ⟨_, rfl⟩
               replace H : (if 0 ≤ (ji49) then (if (ji49) < (x9_2.length : Int) then (if x23_2 < (l0_2.length : Int) then ((impl_field_mod.f t188 (wrap64 ((rd y196 (ji49)) + (wrap64 ((rd l0_2 x23_2) * (rd x1_1 x23_2)))))).bind fun t206 => (impl_Jacobi_walk.l1 k2 t188 (l1.length : Int) (y196.set ((ji49) : Int).toNat t206) a2 x17_1 x1_1 (x1_1.length : Int) (wrap64 (x23_2 + 1)) a0_0 l0_1 l0_2)) else (none)) else (none)) else (none)) = some r := by first | (rw [hji49] at H; exact H) | (simp only [hji49] at H ⊢; exact H)
               (try rw [hji49] at A19)
               have hji49w : (IntKind.i64.wrap (x23_2 - 1)) = ji49 := (i64_w _).trans hji49
               by_cases c50 : 0 ≤ (ji49)
               ·rw [if_pos c50] at H
                have c50b0 : decide (0 ≤ (ji49)) = true := decide_eq_true c50
                clear c50
                by_cases c51 : (ji49) < (x9_2.length : Int)
                ·rw [if_pos c51] at H
                 have c51b0 : decide ((ji49) < (x9_2.length : Int)) = true := decide_eq_true c51
                 clear c51
                 by_cases c52 : x23_2 < (l0_2.length : Int)
                 ·rw [if_pos c52] at H
                  have c52b0 : decide (x23_2 < (l0_2.length : Int)) = true := decide_eq_true c52
                  clear c52
                  replace H := Option.bind_eq_some_iff.mp H
                  obtain ⟨t206, A530, H⟩ := H
                  replace H : (impl_Jacobi_walk.l1 k2 t188 (l1.length : Int) (y196.set ((ji49) : Int).toNat t206) a2 x17_1 x1_1 (x1_1.length : Int) (wrap64 (x23_2 + 1)) a0_0 l0_1 l0_2) = some r := H
                  have A53 := Aside0.mk A530
                  clear A530
                  obtain ⟨y207, hy207⟩ : ∃ y_ : List Int, y_ = (y196.set ((ji49) : Int).toNat t206) := ⟨_, rfl⟩
                  replace H : (impl_Jacobi_walk.l1 k2 t188 (l1.length : Int) y207 a2 x17_1 x1_1 (x1_1.length : Int) (wrap64 (x23_2 + 1)) a0_0 l0_1 l0_2) = some r := by first | (rw [hy207]; with_reducible exact H) | (have H2_ := (Option.bind_some _ _).symm.trans H; rw [hy207]; with_reducible exact H2_) | (have H2_ := (Option.bind_some _ _).symm.trans H; with_reducible exact H2_) | with_reducible exact H | (rw [hy207]; exact H) | exact H
                  have Ny207 := Aside0.mk hy207
                  clear hy207
                  have H' := Aside0.mk H
                  clear H
                  have p192 : 0 ≤ (x23_2 : Int) := of_decide_eq_true (by first | (with_reducible assumption) | assumption)
                  have q192 : x23_2 < (x1_1.length : Int) := of_decide_eq_true (by first | (with_reducible assumption) | assumption)
                  obtain ⟨ad192, e192, hx192_0⟩ := Kd.at_int (Kd.V_reads' HO_21.out).2.2 x23_2 p192 q192
                  cases e192
                  replace p192 := eq_true p192
                  replace q192 := eq_true q192
                  try go_wp2
                  have n0_ := Aside0.mk (Kd.R_drew HO_9.out)
                  have n1_ := Aside0.mk (Kd.V_drew HO_21.out)
                  have n2_ := Aside0.mk (blk_drew BK187.out)
                  have n3_ := Aside0.mk (below_drew1 HB.out)
                  clear HO_9
                  clear HO_21
                  clear BK187
                  clear HB
                  have HO_9 := n0_
                  have HO_21 := n1_
                  have BK187 := n2_
                  have HB := n3_
                  clear n0_ n1_ n2_ n3_
                  obtain ⟨Ao56, co56, eo56⟩ := Kd.R_slice HO_9.out
                  (first | subst eo56 | (injection eo56 with f1_ f2_ f3_; have f4_ := f1_.symm; have f5_ := f3_.symm; clear f1_ f2_ f3_; subst f4_; subst f5_))
                  have p193 : 0 ≤ (x23_2 : Int) := of_decide_eq_true (by first | (with_reducible assumption) | assumption)
                  have q193 : x23_2 < (x9_2.length : Int) := of_decide_eq_true (by first | (with_reducible assumption) | assumption)
                  obtain ⟨ad193, e193, hx193_0⟩ := Kd.at_int (Kd.R_reads' HO_9.out).2.2 x23_2 p193 q193
                  cases e193
                  replace p193 := eq_true p193
                  replace q193 := eq_true q193
                  have p194 : 0 ≤ (x23_2 : Int) := of_decide_eq_true (by first | (with_reducible assumption) | assumption)
                  have q194 : x23_2 < (l0_1.length : Int) := of_decide_eq_true (by first | (with_reducible assumption) | assumption)
                  obtain ⟨ad194, e194, hx194_0⟩ := Kd.at_int HR0_1.out x23_2 p194 q194
                  have hw194_0 := hx194_0
                  cases e194
                  replace hx194_0 := (HB.out.cell (World.block_lt_of_cell? w _ hx194_0)).trans hx194_0
                  replace p194 := eq_true p194
                  replace q194 := eq_true q194
                  refine start_ (n := 18) (S := fun w' => w'.cell? ⟨gb187, 0, none⟩ = some (.int .i64 a0_0) ∧ w'.cell? ⟨gb187, 1, none⟩ = some (.slice (some ad194) l0_1.length c0_1) ∧ w'.cell? ⟨gb187, 2, none⟩ = some (.slice A0_2 l0_2.length c0_2) ∧ w'.cell? (ad193.add (x23_2).toNat) = some (.int .i64 (rd x9_2 x23_2)) ∧ w'.cell? (ad194.add (x23_2).toNat) = some (.int .i64 (rd l0_1 x23_2))) (ds := [17]) #[false, false, false, false, false, false, false, false, false, false, false, false, false, false, false, false, false, false] (by kernel_rfl) rfl rfl ⟨(blk_cell BK187.out 0).trans rfl, (blk_cell BK187.out 1).trans rfl, (blk_cell BK187.out 2).trans rfl, hx193_0, ((HB.out.cell (World.block_lt_of_cell? w _ hw194_0)).trans hw194_0)⟩ (fun hHeld => ?_); refine with_tabW impl_Jacobi_walk.tab8 impl_Jacobi_walk.bits8 (fun HT_ HW_ => ?_)
                  generalize wr.drew = w55 at HO_9 HO_21 BK187 HB hx193_0 hx194_0 hHeld ⊢
                  refine Zpt 0 (some 28) (h := ?_)
                  refine Zpt 1 (some 29) (h := ?_)
                  refine Zpt 2 (some 30) (h := ?_)
                  refine Zpt 3 (some 31) (h := ?_)
                  refine Zpt 4 (some 32) (h := ?_)
                  refine Zpt 5 (some 33) (h := ?_)
                  refine Zpt 7 (some 35) (h := ?_)
                  refine Zpt 9 (some 37) (h := ?_)
                  refine Zpt 12 (some 40) (h := ?_)
                  refine ZtW5 6 (some 34) hHeld (h := ?_)
                  refine ZtW5 8 (some 36) hHeld (h := ?_)
                  refine Zpt 10 (some 38) (h := ?_)
                  refine ZtW5 11 (some 39) hHeld (h := ?_)
                  refine Zpt 13 (some 41) (h := ?_)
                  refine Zpt 14 (some 42) (h := ?_)
                  refine one_ (i := 15) (N := some 43) #[true, true, true, true, true, true, true, true, true, true, true, true, true, true, true, true, false, false] rfl rfl (one_of HT_.out (by kernel_rfl)) (by decide) (fun K hK => ?_)
                  refine goes_ Try.func97 (by kernel_rfl) rfl #[.int .i64 t188, .int .i64 (wrap64 ((rd x9_2 x23_2) + (wrap64 ((rd l0_1 x23_2) * (rd x1_1 x23_2)))))] (by rfl) rfl rfl ZA ?_
                  with_reducible refine (impl_field_mod.calls t188 (wrap64 ((rd x9_2 x23_2) + (wrap64 ((rd l0_1 x23_2) * (rd x1_1 x23_2))))) t195 _ A19.out).mono ?_
                  rintro e w' ⟨rfl, ⟨nd, rfl⟩⟩
                  refine ⟨_, rfl, ?_⟩
                  have p20 : 0 ≤ (x23_2 : Int) := of_decide_eq_true (by first | (with_reducible assumption) | assumption)
                  have q20 : (x23_2 : Int) < ((x9_2.length : Int) : Int) := of_decide_eq_true (by first | (with_reducible assumption) | assumption)
                  obtain ⟨go20, co20, eo20, gb20, gl20, cl20, HG20⟩ := Kd.R_form HO_9.out (by omega)
                  (first | cases eo20 | (injection eo20 with ea_ en_ ec_; (first | subst ea_ | (injection ea_ with ea_; subst ea_)); subst ec_; clear en_))
                  have GB20 := Aside0.mk gb20
                  have GG20 := Aside0.mk HG20
                  clear gb20 gl20 HG20
                  (first | simp only [add_plain] at hx193_0 | skip)
                  obtain ⟨hx20_0, hf20_0⟩ := Kd.R_celln 0 HO_9.out (x23_2 : Int) p20 q20
                  replace p20 := eq_true p20
                  replace q20 := eq_true q20
                  have HP57 := Kd.R_putn HO_9.out (x23_2 : Int) t195
                  rw [← Ny196.out] at HP57
                  have HQ57 := Aside0.mk HP57
                  clear HP57
                  refine hK.out _ _ ⟨(blk_cell BK187.out 0).trans rfl, (blk_cell BK187.out 1).trans rfl, (blk_cell BK187.out 2).trans rfl, hHeld.2.2.2.1, ((HB.out.cell (World.block_lt_of_cell? w _ hw194_0)).trans hw194_0)⟩ (fun hHeld => ?_)
                  clear hK K
                  refine norm_ (a' := ?_) ?_ ?_
                  rotate_left
                  ·show Act.put _ (some 43) _ = _
                   simp only [Act.put, List.setIfInBounds_toArray, List.set_cons_zero, List.set_cons_succ, i64_w, i32_w]
                   rfl
                  refine Zpt 16 (some 44) (h := ?_)
                  refine last_ (i := 17) (N := none) #[true, true, true, true, true, true, true, true, true, true, true, true, true, true, true, true, true, true] rfl rfl (one_of HT_.out (by kernel_rfl)) (by decide) (fun K hK => ?_)
                  refine skip_ (w1 := ?_) (by rfl) rfl ?_ ?_
                  rotate_left
                  ·go_simp
                   rfl
                  refine hK.out _ _ ?_
                  clear hK K
                  refine done_ (done_of HT_.out (by kernel_rfl)) ?_
                  try go_wp2
                  have n0_ : Aside0 (Kd.R (Kd.int .i64) 2 (w55.setCell ⟨go20, (x23_2 : Int).toNat, none⟩ (.int .i64 t195)) w.heap.size (fun k_ => (w.heap.size ≤ k_)) (.slice (some ⟨go20, 0, none⟩) x9_2.length co56) y196) := ⟨ZR HQ57⟩
                  have n1_ : Aside0 (Kd.V (Kd.int .i64) 2 (w55.setCell ⟨go20, (x23_2 : Int).toNat, none⟩ (.int .i64 t195)) w.heap.size (fun k_ => (P1_ k_ ∨ w.heap.size ≤ k_) ∧ some k_ ≠ (.slice (some ⟨go20, 0, none⟩) x9_2.length co56 : Value).ownBlock ∧ k_ ≠ gb187) (.slice (some ad192) x1_1.length co13) x1_1) := ⟨by (with_reducible repeat (first | apply Kd.V_alloc | apply Kd.V_drewN | apply Kd.V_drew)); exact Kd.V_mono (Kd.V_far (p := ⟨go20, (x23_2 : Int).toNat, none⟩) (Kd.V_mono HO_21.out (fun k_ hk => (⟨hk, fun e_ => hk.2.1 (by rw [e_]; rfl)⟩ : _ ∧ k_ ≠ go20))) (fun _ hk => hk.2) (.int .i64 t195)) (fun _ hk => (And.intro (hk.1.1) ((And.intro (hk.1.2.1) (hk.1.2.2)))))⟩
                  have n2_ : Aside0 ((w55.setCell ⟨go20, (x23_2 : Int).toNat, none⟩ (.int .i64 t195)).heap[gb187]? = some (.cells #[.int .i64 a0_0, .slice (some ad194) l0_1.length c0_1, .slice A0_2 l0_2.length c0_2] 29 (0, 0))) := ⟨by refine ZS ?_; refine blk_far ?_ (by have h_ := Kd.R_ne HO_9.out BK187.out (by decide); intro e_; exact h_ (by rw [e_]; rfl)) _; refine ZS ?_; exact BK187.out⟩
                  have n3_ : Aside0 (Below w.heap.size w (w55.setCell ⟨go20, (x23_2 : Int).toNat, none⟩ (.int .i64 t195))) := ⟨by repeat (first | (with_reducible first | exact HB.out | apply below_alloc | apply pw_below_drewN | apply below_drew1 | refine below_set ?_ GB20.out | refine below_set ?_ GE187.out) | exact HB.out)⟩
                  (try clear HO_9)
                  (try clear HO_21)
                  (try clear BK187)
                  (try clear HB)
                  (first | (rw [show (World.drewN w55 nd).setCell ⟨go20, (x23_2 : Int).toNat, none⟩ (.int .i64 t195) = (w55.setCell ⟨go20, (x23_2 : Int).toNat, none⟩ (.int .i64 t195)).drewN nd from rfl]; replace n0_ := Aside0.mk (Kd.R_drewN n0_.out nd); replace n1_ := Aside0.mk (Kd.V_drewN n1_.out nd); replace n2_ := Aside0.mk (blk_drewN n2_.out nd); replace n3_ := Aside0.mk (pw_below_drewN n3_.out nd); generalize (w55.setCell ⟨go20, (x23_2 : Int).toNat, none⟩ (.int .i64 t195)).drewN nd = w58 at n0_ n1_ n2_ n3_ ⊢) | generalize (w55.setCell ⟨go20, (x23_2 : Int).toNat, none⟩ (.int .i64 t195)) = w58 at n0_ n1_ n2_ n3_ ⊢)
                  have HO_9 := n0_
                  have HO_21 := n1_
                  have BK187 := n2_
                  have HB := n3_
                  clear n0_ n1_ n2_ n3_
                  (try (rw [drewN_self w58]; generalize hq_ : World.drewN w58 _ = w58; have n0_ : Aside0 (Kd.V (Kd.int .i64) 2 w58 w.heap.size (fun k_ => (P1_ k_ ∨ w.heap.size ≤ k_) ∧ some k_ ≠ (.slice (some ⟨go20, 0, none⟩) x9_2.length co56 : Value).ownBlock ∧ k_ ≠ gb187) (.slice (some ad192) x1_1.length co13) x1_1) := ⟨by rw [← hq_]; exact (by (with_reducible repeat (first | apply Kd.V_alloc | apply Kd.V_drewN | apply Kd.V_drew)); exact HO_21.out)⟩; have n1_ : Aside0 (Kd.R (Kd.int .i64) 2 w58 w.heap.size (fun k_ => (w.heap.size ≤ k_)) (.slice (some ⟨go20, 0, none⟩) x9_2.length co56) y196) := ⟨by rw [← hq_]; exact (ZR HO_9)⟩; have n2_ : Aside0 (w58.heap[gb187]? = some (.cells #[.int .i64 a0_0, .slice (some ad194) l0_1.length c0_1, .slice A0_2 l0_2.length c0_2] 29 (0, 0))) := ⟨by rw [← hq_]; exact (ZK BK187)⟩; have n3_ : Aside0 (Below w.heap.size w w58) := ⟨by rw [← hq_]; exact ZB⟩; clear HO_21 HO_9 BK187 HB hq_; have HO_21 := n0_; have HO_9 := n1_; have BK187 := n2_; have HB := n3_; clear n0_ n1_ n2_ n3_))
                  (try (obtain ⟨hcy187_0, hcy187_1, hcy187_2, hfy187_0, hfy187_1, hfy187_2⟩ := ZD3 BK187))
                  have n0_ := Aside0.mk (Kd.R_drew HO_9.out)
                  have n1_ := Aside0.mk (Kd.V_drew HO_21.out)
                  have n2_ := Aside0.mk (blk_drew BK187.out)
                  have n3_ := Aside0.mk (below_drew1 HB.out)
                  clear HO_9
                  clear HO_21
                  clear BK187
                  clear HB
                  have HO_9 := n0_
                  have HO_21 := n1_
                  have BK187 := n2_
                  have HB := n3_
                  clear n0_ n1_ n2_ n3_
                  have p204 : 0 ≤ ((ji49) : Int) := of_decide_eq_true (by first | (with_reducible assumption) | assumption)
                  have q204 : (ji49) < (y196.length : Int) := (by have h_ : ((ji49) : Int) < ((x9_2.length : Int) : Int) := of_decide_eq_true (by first | (with_reducible assumption) | assumption); first | (have e_ := (Kd.R_reads' HO_9.out).1; omega) | simpa only [Ny196.out, List.length_set] using h_)
                  have ql204 : (((ji49) : Int) < ((x9_2.length : Int) : Int)) = True := eq_true (of_decide_eq_true (by first | (with_reducible assumption) | assumption))
                  obtain ⟨ad204, e204, hx204_0⟩ := Kd.at_int (Kd.R_reads' HO_9.out).2.2 (ji49) p204 q204
                  obtain rfl : (⟨go20, 0, none⟩ : Addr) = ad204 := (by injection e204)
                  (first | simp only [add_plain] at hx204_0 | simp only [add_at] at hx204_0 | simp only [Addr.add, Nat.zero_add] at hx204_0 | skip)
                  replace p204 := eq_true p204
                  replace q204 := eq_true q204
                  have p205 : 0 ≤ (x23_2 : Int) := of_decide_eq_true (by first | (with_reducible assumption) | assumption)
                  have q205 : x23_2 < (l0_2.length : Int) := of_decide_eq_true (by first | (with_reducible assumption) | assumption)
                  obtain ⟨ad205, e205, hx205_0⟩ := Kd.at_int HR0_2.out x23_2 p205 q205
                  have hw205_0 := hx205_0
                  cases e205
                  replace hx205_0 := (HB.out.cell (World.block_lt_of_cell? w _ hx205_0)).trans hx205_0
                  replace p205 := eq_true p205
                  replace q205 := eq_true q205
                  refine start_ (n := 20) (S := fun w' => w'.cell? ⟨gb187, 0, none⟩ = some (.int .i64 a0_0) ∧ w'.cell? ⟨gb187, 1, none⟩ = some (.slice (some ad194) l0_1.length c0_1) ∧ w'.cell? ⟨gb187, 2, none⟩ = some (.slice (some ad205) l0_2.length c0_2) ∧ w'.cell? ⟨go20, ((ji49)).toNat, none⟩ = some (.int .i64 (rd y196 (ji49))) ∧ w'.cell? (ad205.add (x23_2).toNat) = some (.int .i64 (rd l0_2 x23_2))) (ds := [19]) #[false, false, false, false, false, false, false, false, false, false, false, false, false, false, false, false, false, false, false, false] (by kernel_rfl) rfl rfl ⟨(blk_cell BK187.out 0).trans rfl, (blk_cell BK187.out 1).trans rfl, (blk_cell BK187.out 2).trans rfl, hx204_0, ((HB.out.cell (World.block_lt_of_cell? w _ hw205_0)).trans hw205_0)⟩ (fun hHeld => ?_); refine with_tabW impl_Jacobi_walk.tab12 impl_Jacobi_walk.bits12 (fun HT_ HW_ => ?_)
                  generalize w58.drew = w59 at HO_9 HO_21 BK187 HB HQ57 hx204_0 hx205_0 hHeld ⊢
                  refine Zpt 0 (some 64) (h := ?_)
                  refine Zpt 1 (some 65) (h := ?_)
                  refine Zpt 2 (some 66) (h := ?_)
                  refine Zpt 3 (some 67) (h := ?_)
                  refine Zpt 4 (some 68) (h := ?_)
                  refine Zpt 5 (some 69) (h := ?_)
                  refine Zpt 6 (some 70) (h := ?_)
                  refine Zpt 7 (some 71) (h := ?_)
                  refine Zpt 9 (some 73) (h := ?_)
                  refine Zpt 11 (some 75) (h := ?_)
                  refine Zpt 14 (some 78) (h := ?_)
                  refine ZtW5 8 (some 72) hHeld (h := ?_)
                  refine ZtW5 10 (some 74) hHeld (h := ?_)
                  refine Zpt 12 (some 76) (h := ?_)
                  refine ZtW5 13 (some 77) hHeld (h := ?_)
                  refine Zpt 15 (some 79) (h := ?_)
                  refine Zpt 16 (some 80) (h := ?_)
                  refine one_ (i := 17) (N := some 81) #[true, true, true, true, true, true, true, true, true, true, true, true, true, true, true, true, true, true, false, false] rfl rfl (one_of HT_.out (by kernel_rfl)) (by decide) (fun K hK => ?_)
                  refine goes_ Try.func97 (by kernel_rfl) rfl #[.int .i64 t188, .int .i64 (wrap64 ((rd y196 (ji49)) + (wrap64 ((rd l0_2 x23_2) * (rd x1_1 x23_2)))))] (by rfl) rfl rfl (by (try simp only [List.map_toArray, List.map_cons, List.map_nil]); first | done | (simp only [hji49]; rfl) | rfl | (simp only [List.length_drop, List.length_take]; rfl)) ?_
                  with_reducible refine (impl_field_mod.calls t188 (wrap64 ((rd y196 (ji49)) + (wrap64 ((rd l0_2 x23_2) * (rd x1_1 x23_2))))) t206 _ A53.out).mono ?_
                  rintro e w' ⟨rfl, ⟨nd, rfl⟩⟩
                  refine ⟨_, rfl, ?_⟩
                  have p54 : 0 ≤ ((ji49) : Int) := of_decide_eq_true (by first | (with_reducible assumption) | assumption)
                  have q54 : ((ji49) : Int) < ((x9_2.length : Int) : Int) := of_decide_eq_true (by first | (with_reducible assumption) | assumption)
                  obtain ⟨hx54_0, hf54_0⟩ := Kd.R_celln 0 HO_9.out ((ji49) : Int) p54 q54
                  replace p54 := eq_true p54
                  replace q54 := eq_true q54
                  have HP60 := Kd.R_putn HO_9.out ((ji49) : Int) t206
                  rw [← Ny207.out] at HP60
                  have HQ60 := Aside0.mk HP60
                  clear HP60
                  refine hK.out _ _ ⟨(blk_cell BK187.out 0).trans rfl, (blk_cell BK187.out 1).trans rfl, (blk_cell BK187.out 2).trans rfl, hHeld.2.2.2.1, ((HB.out.cell (World.block_lt_of_cell? w _ hw205_0)).trans hw205_0)⟩ (fun hHeld => ?_)
                  clear hK K
                  refine norm_ (a' := ?_) ?_ ?_
                  rotate_left
                  ·show Act.put _ (some 81) _ = _
                   simp only [Act.put, List.setIfInBounds_toArray, List.set_cons_zero, List.set_cons_succ, i64_w, i32_w]
                   rfl
                  refine Zpt 18 (some 82) (h := ?_)
                  refine last_ (i := 19) (N := none) #[true, true, true, true, true, true, true, true, true, true, true, true, true, true, true, true, true, true, true, true] rfl rfl (one_of HT_.out (by kernel_rfl)) (by decide) (fun K hK => ?_)
                  refine skip_ (w1 := ?_) (by rfl) rfl ?_ ?_
                  rotate_left
                  ·go_simp
                   rfl
                  refine hK.out _ _ ?_
                  clear hK K
                  refine done_ (done_of HT_.out (by kernel_rfl)) ?_
                  try go_wp2
                  go_roundg k2
                  case measure => have := HK1.out; have := HK2.out; omega
                  case rel => exact ⟨(y207), (wrap64 (x23_2 + 1)), (by first | rfl | (simp; done) | (simp [*]; done)), H', ⟨by have := HK1.out; have := HK2.out; omega⟩, ⟨ZR HQ60⟩, ⟨by (with_reducible repeat (first | apply Kd.V_alloc | apply Kd.V_drewN | apply Kd.V_drew)); exact Kd.V_mono (Kd.V_far (p := ⟨go20, ((ji49) : Int).toNat, none⟩) (Kd.V_mono HO_21.out (fun k_ hk => (⟨hk, fun e_ => hk.2.1 (by rw [e_]; rfl)⟩ : _ ∧ k_ ≠ go20))) (fun _ hk => hk.2) (.int .i64 t206)) (fun _ hk => (And.intro (hk.1.1) ((And.intro (hk.1.2.1) (hk.1.2.2)))))⟩, ⟨by refine ZS ?_; refine blk_far ?_ (by have h_ := Kd.R_ne HO_9.out BK187.out (by decide); intro e_; exact h_ (by rw [e_]; rfl)) _; refine ZS ?_; exact BK187.out⟩, ⟨by repeat (first | (with_reducible first | exact HB.out | apply below_alloc | apply pw_below_drewN | apply below_drew1 | refine below_set ?_ GB20.out | refine below_set ?_ GE187.out) | exact HB.out)⟩⟩
                 ·rw [if_neg c52] at H
                  exact absurd H (by simp)
                ·rw [if_neg c51] at H
                 exact absurd H (by simp)
               ·rw [if_neg c50] at H
                exact absurd H (by simp)
              ·rw [if_neg c48] at H
               have c48b0 : decide (0 < x23_2) = false := decide_eq_false c48
               clear c48
               have H' := Aside0.mk H
               clear H
               have p192 : 0 ≤ (x23_2 : Int) := of_decide_eq_true (by first | (with_reducible assumption) | assumption)
               have q192 : x23_2 < (x1_1.length : Int) := of_decide_eq_true (by first | (with_reducible assumption) | assumption)
               obtain ⟨ad192, e192, hx192_0⟩ := Kd.at_int (Kd.V_reads' HO_21.out).2.2 x23_2 p192 q192
               cases e192
               replace p192 := eq_true p192
               replace q192 := eq_true q192
               try go_wp2
               have n0_ := Aside0.mk (Kd.R_drew HO_9.out)
               have n1_ := Aside0.mk (Kd.V_drew HO_21.out)
               have n2_ := Aside0.mk (blk_drew BK187.out)
               have n3_ := Aside0.mk (below_drew1 HB.out)
               clear HO_9
               clear HO_21
               clear BK187
               clear HB
               have HO_9 := n0_
               have HO_21 := n1_
               have BK187 := n2_
               have HB := n3_
               clear n0_ n1_ n2_ n3_
               obtain ⟨Ao62, co62, eo62⟩ := Kd.R_slice HO_9.out
               (first | subst eo62 | (injection eo62 with f1_ f2_ f3_; have f4_ := f1_.symm; have f5_ := f3_.symm; clear f1_ f2_ f3_; subst f4_; subst f5_))
               have p193 : 0 ≤ (x23_2 : Int) := of_decide_eq_true (by first | (with_reducible assumption) | assumption)
               have q193 : x23_2 < (x9_2.length : Int) := of_decide_eq_true (by first | (with_reducible assumption) | assumption)
               obtain ⟨ad193, e193, hx193_0⟩ := Kd.at_int (Kd.R_reads' HO_9.out).2.2 x23_2 p193 q193
               cases e193
               replace p193 := eq_true p193
               replace q193 := eq_true q193
               have p194 : 0 ≤ (x23_2 : Int) := of_decide_eq_true (by first | (with_reducible assumption) | assumption)
               have q194 : x23_2 < (l0_1.length : Int) := of_decide_eq_true (by first | (with_reducible assumption) | assumption)
               obtain ⟨ad194, e194, hx194_0⟩ := Kd.at_int HR0_1.out x23_2 p194 q194
               have hw194_0 := hx194_0
               cases e194
               replace hx194_0 := (HB.out.cell (World.block_lt_of_cell? w _ hx194_0)).trans hx194_0
               replace p194 := eq_true p194
               replace q194 := eq_true q194
               refine start_ (n := 18) (S := fun w' => w'.cell? ⟨gb187, 0, none⟩ = some (.int .i64 a0_0) ∧ w'.cell? ⟨gb187, 1, none⟩ = some (.slice (some ad194) l0_1.length c0_1) ∧ w'.cell? ⟨gb187, 2, none⟩ = some (.slice A0_2 l0_2.length c0_2) ∧ w'.cell? (ad193.add (x23_2).toNat) = some (.int .i64 (rd x9_2 x23_2)) ∧ w'.cell? (ad194.add (x23_2).toNat) = some (.int .i64 (rd l0_1 x23_2))) (ds := [17]) #[false, false, false, false, false, false, false, false, false, false, false, false, false, false, false, false, false, false] (by kernel_rfl) rfl rfl ⟨(blk_cell BK187.out 0).trans rfl, (blk_cell BK187.out 1).trans rfl, (blk_cell BK187.out 2).trans rfl, hx193_0, ((HB.out.cell (World.block_lt_of_cell? w _ hw194_0)).trans hw194_0)⟩ (fun hHeld => ?_); refine with_tabW impl_Jacobi_walk.tab8 impl_Jacobi_walk.bits8 (fun HT_ HW_ => ?_)
               generalize wr.drew = w61 at HO_9 HO_21 BK187 HB hx193_0 hx194_0 hHeld ⊢
               refine Zpt 0 (some 28) (h := ?_)
               refine Zpt 1 (some 29) (h := ?_)
               refine Zpt 2 (some 30) (h := ?_)
               refine Zpt 3 (some 31) (h := ?_)
               refine Zpt 4 (some 32) (h := ?_)
               refine Zpt 5 (some 33) (h := ?_)
               refine Zpt 7 (some 35) (h := ?_)
               refine Zpt 9 (some 37) (h := ?_)
               refine Zpt 12 (some 40) (h := ?_)
               refine ZtW5 6 (some 34) hHeld (h := ?_)
               refine ZtW5 8 (some 36) hHeld (h := ?_)
               refine Zpt 10 (some 38) (h := ?_)
               refine ZtW5 11 (some 39) hHeld (h := ?_)
               refine Zpt 13 (some 41) (h := ?_)
               refine Zpt 14 (some 42) (h := ?_)
               refine one_ (i := 15) (N := some 43) #[true, true, true, true, true, true, true, true, true, true, true, true, true, true, true, true, false, false] rfl rfl (one_of HT_.out (by kernel_rfl)) (by decide) (fun K hK => ?_)
               refine goes_ Try.func97 (by kernel_rfl) rfl #[.int .i64 t188, .int .i64 (wrap64 ((rd x9_2 x23_2) + (wrap64 ((rd l0_1 x23_2) * (rd x1_1 x23_2)))))] (by rfl) rfl rfl ZA ?_
               with_reducible refine (impl_field_mod.calls t188 (wrap64 ((rd x9_2 x23_2) + (wrap64 ((rd l0_1 x23_2) * (rd x1_1 x23_2))))) t195 _ A19.out).mono ?_
               rintro e w' ⟨rfl, ⟨nd, rfl⟩⟩
               refine ⟨_, rfl, ?_⟩
               have p20 : 0 ≤ (x23_2 : Int) := of_decide_eq_true (by first | (with_reducible assumption) | assumption)
               have q20 : (x23_2 : Int) < ((x9_2.length : Int) : Int) := of_decide_eq_true (by first | (with_reducible assumption) | assumption)
               obtain ⟨go20, co20, eo20, gb20, gl20, cl20, HG20⟩ := Kd.R_form HO_9.out (by omega)
               (first | cases eo20 | (injection eo20 with ea_ en_ ec_; (first | subst ea_ | (injection ea_ with ea_; subst ea_)); subst ec_; clear en_))
               have GB20 := Aside0.mk gb20
               have GG20 := Aside0.mk HG20
               clear gb20 gl20 HG20
               (first | simp only [add_plain] at hx193_0 | skip)
               obtain ⟨hx20_0, hf20_0⟩ := Kd.R_celln 0 HO_9.out (x23_2 : Int) p20 q20
               replace p20 := eq_true p20
               replace q20 := eq_true q20
               have HP63 := Kd.R_putn HO_9.out (x23_2 : Int) t195
               rw [← Ny196.out] at HP63
               have HQ63 := Aside0.mk HP63
               clear HP63
               refine hK.out _ _ ⟨(blk_cell BK187.out 0).trans rfl, (blk_cell BK187.out 1).trans rfl, (blk_cell BK187.out 2).trans rfl, hHeld.2.2.2.1, ((HB.out.cell (World.block_lt_of_cell? w _ hw194_0)).trans hw194_0)⟩ (fun hHeld => ?_)
               clear hK K
               refine norm_ (a' := ?_) ?_ ?_
               rotate_left
               ·show Act.put _ (some 43) _ = _
                simp only [Act.put, List.setIfInBounds_toArray, List.set_cons_zero, List.set_cons_succ, i64_w, i32_w]
                rfl
               refine Zpt 16 (some 44) (h := ?_)
               refine last_ (i := 17) (N := none) #[true, true, true, true, true, true, true, true, true, true, true, true, true, true, true, true, true, true] rfl rfl (one_of HT_.out (by kernel_rfl)) (by decide) (fun K hK => ?_)
               refine skip_ (w1 := ?_) (by rfl) rfl ?_ ?_
               rotate_left
               ·go_simp
                rfl
               refine hK.out _ _ ?_
               clear hK K
               refine done_ (done_of HT_.out (by kernel_rfl)) ?_
               try go_wp2
               go_roundg k2
               case measure => have := HK1.out; have := HK2.out; omega
               case rel => exact ⟨(y196), (wrap64 (x23_2 + 1)), (by first | rfl | (simp; done) | (simp [*]; done)), H', ⟨by have := HK1.out; have := HK2.out; omega⟩, ⟨ZR HQ63⟩, ⟨by (with_reducible repeat (first | apply Kd.V_alloc | apply Kd.V_drewN | apply Kd.V_drew)); exact Kd.V_mono (Kd.V_far (p := ⟨go20, (x23_2 : Int).toNat, none⟩) (Kd.V_mono HO_21.out (fun k_ hk => (⟨hk, fun e_ => hk.2.1 (by rw [e_]; rfl)⟩ : _ ∧ k_ ≠ go20))) (fun _ hk => hk.2) (.int .i64 t195)) (fun _ hk => (And.intro (hk.1.1) ((And.intro (hk.1.2.1) (hk.1.2.2)))))⟩, ⟨by refine ZS ?_; refine blk_far ?_ (by have h_ := Kd.R_ne HO_9.out BK187.out (by decide); intro e_; exact h_ (by rw [e_]; rfl)) _; refine ZS ?_; exact BK187.out⟩, ⟨by repeat (first | (with_reducible first | exact HB.out | apply below_alloc | apply pw_below_drewN | apply below_drew1 | refine below_set ?_ GB20.out | refine below_set ?_ GE187.out) | exact HB.out)⟩⟩
            ·rw [if_neg c18] at H
             exact absurd H (by simp)
           ·rw [if_neg c17] at H
            exact absurd H (by simp)
          ·rw [if_neg c16] at H
           exact absurd H (by simp)
         ·rw [if_neg c15] at H
          exact absurd H (by simp)
        ·rw [if_neg c14] at H
         have c14b0 : decide (x23_2 < (x1_1.length : Int)) = false := decide_eq_false c14
         clear c14
         have H' := Aside0.mk H
         clear H
         go_wp2
         go_roundg k2
         case measure => have := HK1.out; have := HK2.out; omega
         case rel => exact ⟨(x9_2), (wrap64 (x17_1 + 1)), (by first | rfl | (simp; done) | (simp [*]; done)), H', ⟨by have := HK1.out; have := HK2.out; omega⟩, ⟨Kd.V_mono (Kd.R_V (by refine ZQ ?_; exact (Kd.R_types HO_9.out BK187.out (by decide)))) (fun k_ hk => by first | exact ⟨(.inr (hk.1)), hk.2⟩ | exact (.inr (hk)))⟩, ⟨ZK BK187⟩, ⟨ZB⟩⟩
     ·rw [if_neg c10] at H
      exact absurd H (by simp)
    ·rw [if_neg c9] at H
     exact absurd H (by simp)
   ·rw [if_neg c8] at H
    have c8b0 : decide (x17_1 < a2) = false := decide_eq_false c8
    clear c8
    obtain rfl := Option.some.inj H
    go_wp2
    go_ret
    exact ⟨_, by first | rfl | (simp [errW_none, errW_some] <;> rfl) | (simp [*, errW_none, errW_some] <;> rfl), by (with_reducible repeat (first | apply Kd.V_alloc | apply Kd.V_drewN | apply Kd.V_drew)); exact Kd.V_mono HO_1.out (fun _ hk => hk.1), ZB⟩

end Go.Proofs.Ytaclapojgdekpaa.X
