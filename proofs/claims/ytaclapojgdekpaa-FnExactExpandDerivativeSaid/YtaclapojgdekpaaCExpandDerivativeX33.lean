/- Contracts of functions that the law reaches, printed by a program of this session; Lean checks them. -/
import Derived.Test.YtaclapojgdekpaaCExpandDerivativeX0
import Derived.Test.YtaclapojgdekpaaCExpandDerivativeX1
import Derived.Test.YtaclapojgdekpaaCExpandDerivativeX31
import Derived.Test.YtaclapojgdekpaaCExpandDerivativeX32
import Derived.Test.YtaclapojgdekpaaCExpandDerivativeX5
import Derived.Test.YtaclapojgdekpaaCExpandDerivativeX7
import Derived.Test.YtaclapojgdekpaaCExpandDerivativeXZ
namespace Go.Proofs.Ytaclapojgdekpaa.X
open Go.RowKit Go.Proofs.YtaclapojgdekpaaW.PrintWords Go.Proofs.YtaclapojgdekpaaW.PrintLast Go.Proofs.YtaclapojgdekpaaW.PrintMore
attribute [local go_sem] max2_int min2_int max_two min_two max_three min_three max_four min_four   -- for this text's walks alone
set_option linter.unusedVariables false
set_option linter.unusedSimpArgs false

/-! ### laws_FnExactExpandDerivative: function 11 -/
mutual
def laws_FnExactExpandDerivative.j0 : Nat → Int → List Int → Int → List Int → Int → Bool → Int → List Int → List Int → Int → List Int → List Int → Option (Bool)
 | 0, _, _, _, _, _, _, _, _, _, _, _, _ => none
 | k + 1, x1, x6, x7, x9, x10, x44, x1115000, x1115001, x1115002, x1135000, x1135001, x1135002 => if x44 = true then (some false) else ((laws_toJacobi.f k x1115000 x1115001 x1115002).bind fun bt1140 => ((laws_eqJacobi.f k x1135000 x1135001 x1135002 bt1140.1 bt1140.2.1 bt1140.2.2).bind fun t1147 => (if t1147 = true then ((laws_markJacobi.f k x1135000 x1135001 x1135002 1).bind fun bt1148 => (if bt1148.1 < 0 then (laws_FnExactExpandDerivative.j1 k x1 x6 x7 x9 true x1115000 x1115001 x1115002) else ((laws_eqInt64S.f k x9 x6).bind fun t1151 => (if t1151 = true then (laws_FnExactExpandDerivative.j1 k x1 x6 x7 x9 (x10 != x7) x1115000 x1115001 x1115002) else (laws_FnExactExpandDerivative.j1 k x1 x6 x7 x9 true x1115000 x1115001 x1115002))))) else (some false))))
def laws_FnExactExpandDerivative.j1 : Nat → Int → List Int → Int → List Int → Bool → Int → List Int → List Int → Option (Bool)
 | 0, _, _, _, _, _, _, _, _ => none
 | k + 1, x1, x6, x7, x9, x65, x1115000, x1115001, x1115002 => if x65 = true then (some false) else ((laws_markInt64S.f k x9 1).bind fun bt1152 => ((laws_heldInt64S.f k bt1152.2 1).bind fun t1154 => (if t1154 < 0 then (some false) else (if t1154 = bt1152.1 then ((laws_toJacobi.f k x1115000 x1115001 x1115002).bind fun bt1155 => ((impl_ExpandDerivative.f k bt1155.1 bt1155.2.1 bt1155.2.2 x1).bind fun bt1162 => ((laws_eqInt64S.f k bt1162.1 x6).bind fun t1166 => (if t1166 = true then (laws_FnExactExpandDerivative.j2 k bt1152.2 bt1152.1 (bt1162.2 != x7)) else (laws_FnExactExpandDerivative.j2 k bt1152.2 bt1152.1 true))))) else (some false)))))
def laws_FnExactExpandDerivative.j2 : Nat → List Int → Int → Bool → Option (Bool)
 | 0, _, _, _ => none
 | k + 1, x9, x12, x92 => if x92 = true then (some false) else ((laws_heldInt64S.f k x9 1).bind fun t1167 => (if t1167 < 0 then (some false) else (if t1167 = x12 then (some true) else (some false))))
end
def laws_FnExactExpandDerivative.f (k : Nat) (a0_0 : Int) (l0_1 : List Int) (l0_2 : List Int) (a1 : Int) : Option (Bool) := (laws_szJacobi.f a0_0 l0_1 l0_2 1048576).bind fun t1115 => (if t1115 < 0 then (some true) else ((laws_toJacobi.f k a0_0 l0_1 l0_2).bind fun bt1116 => ((spec_ExpandDerivative.f k bt1116.1 bt1116.2.1 bt1116.2.2 a1).bind fun bt1123 => ((laws_toJacobi.f k a0_0 l0_1 l0_2).bind fun bt1127 => ((impl_ExpandDerivative.f k bt1127.1 bt1127.2.1 bt1127.2.2 a1).bind fun bt1135 => ((laws_eqInt64S.f k bt1135.1 bt1123.1).bind fun t1139 => (if t1139 = true then (laws_FnExactExpandDerivative.j0 k a1 bt1123.1 bt1123.2 bt1135.1 bt1135.2 (bt1135.2 != bt1123.2) a0_0 l0_1 l0_2 bt1127.1 bt1127.2.1 bt1127.2.2) else (laws_FnExactExpandDerivative.j0 k a1 bt1123.1 bt1123.2 bt1135.1 bt1135.2 true a0_0 l0_1 l0_2 bt1127.1 bt1127.2.1 bt1127.2.2))))))))
theorem laws_FnExactExpandDerivative.mono_l : ∀ k, (∀ y0 y1 y2 y3 y4 y5 y6 y7 y8 y9 y10 y11, LeO (laws_FnExactExpandDerivative.j0 k y0 y1 y2 y3 y4 y5 y6 y7 y8 y9 y10 y11) (laws_FnExactExpandDerivative.j0 (k + 1) y0 y1 y2 y3 y4 y5 y6 y7 y8 y9 y10 y11)) ∧ (∀ y0 y1 y2 y3 y4 y5 y6 y7, LeO (laws_FnExactExpandDerivative.j1 k y0 y1 y2 y3 y4 y5 y6 y7) (laws_FnExactExpandDerivative.j1 (k + 1) y0 y1 y2 y3 y4 y5 y6 y7)) ∧ (∀ y0 y1 y2, LeO (laws_FnExactExpandDerivative.j2 k y0 y1 y2) (laws_FnExactExpandDerivative.j2 (k + 1) y0 y1 y2))
 | 0 => ⟨fun _ _ _ _ _ _ _ _ _ _ _ _ r h => by simp [laws_FnExactExpandDerivative.j0] at h, fun _ _ _ _ _ _ _ _ r h => by simp [laws_FnExactExpandDerivative.j1] at h, fun _ _ _ r h => by simp [laws_FnExactExpandDerivative.j2] at h⟩
 | k + 1 => by
  obtain ⟨ih0, ih1, ih2⟩ := laws_FnExactExpandDerivative.mono_l k
  refine ⟨?_, ?_, ?_⟩
  ·intro y0 y1 y2 y3 y4 y5 y6 y7 y8 y9 y10 y11
   unfold laws_FnExactExpandDerivative.j0
   repeat' first
   | (with_reducible exact ih0 _ _ _ _ _ _ _ _ _ _ _ _)
   | (with_reducible exact ih1 _ _ _ _ _ _ _ _)
   | (with_reducible exact ih2 _ _ _)
   | (with_reducible exact impl_ExpandDerivative.mono _ _ _ _ _)
   | (with_reducible exact laws_eqInt64S.mono _ _ _)
   | (with_reducible exact laws_eqJacobi.mono _ _ _ _ _ _ _)
   | (with_reducible exact laws_heldInt64S.mono _ _ _)
   | (with_reducible exact laws_markInt64S.mono _ _ _)
   | (with_reducible exact laws_markJacobi.mono _ _ _ _ _)
   | (with_reducible exact laws_toJacobi.mono _ _ _ _)
   | (with_reducible exact spec_ExpandDerivative.mono _ _ _ _ _)
   | (with_reducible exact LeO.refl _)
   | (with_reducible exact LeO.none _)
   | (with_reducible refine LeO.ite ?_ ?_)
   | (with_reducible refine LeO.bind ?_ (fun _ => ?_))
   | exact ih0 _ _ _ _ _ _ _ _ _ _ _ _
   | exact ih1 _ _ _ _ _ _ _ _
   | exact ih2 _ _ _
   | exact impl_ExpandDerivative.mono _ _ _ _ _
   | exact laws_eqInt64S.mono _ _ _
   | exact laws_eqJacobi.mono _ _ _ _ _ _ _
   | exact laws_heldInt64S.mono _ _ _
   | exact laws_markInt64S.mono _ _ _
   | exact laws_markJacobi.mono _ _ _ _ _
   | exact laws_toJacobi.mono _ _ _ _
   | exact spec_ExpandDerivative.mono _ _ _ _ _
   | exact LeO.none _
   | refine LeO.ite ?_ ?_
   | refine LeO.bind ?_ (fun _ => ?_)
  ·intro y0 y1 y2 y3 y4 y5 y6 y7
   unfold laws_FnExactExpandDerivative.j1
   repeat' first
   | (with_reducible exact ih0 _ _ _ _ _ _ _ _ _ _ _ _)
   | (with_reducible exact ih1 _ _ _ _ _ _ _ _)
   | (with_reducible exact ih2 _ _ _)
   | (with_reducible exact impl_ExpandDerivative.mono _ _ _ _ _)
   | (with_reducible exact laws_eqInt64S.mono _ _ _)
   | (with_reducible exact laws_eqJacobi.mono _ _ _ _ _ _ _)
   | (with_reducible exact laws_heldInt64S.mono _ _ _)
   | (with_reducible exact laws_markInt64S.mono _ _ _)
   | (with_reducible exact laws_markJacobi.mono _ _ _ _ _)
   | (with_reducible exact laws_toJacobi.mono _ _ _ _)
   | (with_reducible exact spec_ExpandDerivative.mono _ _ _ _ _)
   | (with_reducible exact LeO.refl _)
   | (with_reducible exact LeO.none _)
   | (with_reducible refine LeO.ite ?_ ?_)
   | (with_reducible refine LeO.bind ?_ (fun _ => ?_))
   | exact ih0 _ _ _ _ _ _ _ _ _ _ _ _
   | exact ih1 _ _ _ _ _ _ _ _
   | exact ih2 _ _ _
   | exact impl_ExpandDerivative.mono _ _ _ _ _
   | exact laws_eqInt64S.mono _ _ _
   | exact laws_eqJacobi.mono _ _ _ _ _ _ _
   | exact laws_heldInt64S.mono _ _ _
   | exact laws_markInt64S.mono _ _ _
   | exact laws_markJacobi.mono _ _ _ _ _
   | exact laws_toJacobi.mono _ _ _ _
   | exact spec_ExpandDerivative.mono _ _ _ _ _
   | exact LeO.none _
   | refine LeO.ite ?_ ?_
   | refine LeO.bind ?_ (fun _ => ?_)
  ·intro y0 y1 y2
   unfold laws_FnExactExpandDerivative.j2
   repeat' first
   | (with_reducible exact ih0 _ _ _ _ _ _ _ _ _ _ _ _)
   | (with_reducible exact ih1 _ _ _ _ _ _ _ _)
   | (with_reducible exact ih2 _ _ _)
   | (with_reducible exact impl_ExpandDerivative.mono _ _ _ _ _)
   | (with_reducible exact laws_eqInt64S.mono _ _ _)
   | (with_reducible exact laws_eqJacobi.mono _ _ _ _ _ _ _)
   | (with_reducible exact laws_heldInt64S.mono _ _ _)
   | (with_reducible exact laws_markInt64S.mono _ _ _)
   | (with_reducible exact laws_markJacobi.mono _ _ _ _ _)
   | (with_reducible exact laws_toJacobi.mono _ _ _ _)
   | (with_reducible exact spec_ExpandDerivative.mono _ _ _ _ _)
   | (with_reducible exact LeO.refl _)
   | (with_reducible exact LeO.none _)
   | (with_reducible refine LeO.ite ?_ ?_)
   | (with_reducible refine LeO.bind ?_ (fun _ => ?_))
   | exact ih0 _ _ _ _ _ _ _ _ _ _ _ _
   | exact ih1 _ _ _ _ _ _ _ _
   | exact ih2 _ _ _
   | exact impl_ExpandDerivative.mono _ _ _ _ _
   | exact laws_eqInt64S.mono _ _ _
   | exact laws_eqJacobi.mono _ _ _ _ _ _ _
   | exact laws_heldInt64S.mono _ _ _
   | exact laws_markInt64S.mono _ _ _
   | exact laws_markJacobi.mono _ _ _ _ _
   | exact laws_toJacobi.mono _ _ _ _
   | exact spec_ExpandDerivative.mono _ _ _ _ _
   | exact LeO.none _
   | refine LeO.ite ?_ ?_
   | refine LeO.bind ?_ (fun _ => ?_)
theorem laws_FnExactExpandDerivative.mono : ∀ a0 a1 a2 a3 k, LeO (laws_FnExactExpandDerivative.f k a0 a1 a2 a3) (laws_FnExactExpandDerivative.f (k + 1) a0 a1 a2 a3) := by
 intro a0 a1 a2 a3 k
 obtain ⟨ih0, ih1, ih2⟩ := laws_FnExactExpandDerivative.mono_l k
 unfold laws_FnExactExpandDerivative.f
 repeat' first
   | (with_reducible exact ih0 _ _ _ _ _ _ _ _ _ _ _ _)
   | (with_reducible exact ih1 _ _ _ _ _ _ _ _)
   | (with_reducible exact ih2 _ _ _)
   | (with_reducible exact impl_ExpandDerivative.mono _ _ _ _ _)
   | (with_reducible exact laws_eqInt64S.mono _ _ _)
   | (with_reducible exact laws_eqJacobi.mono _ _ _ _ _ _ _)
   | (with_reducible exact laws_heldInt64S.mono _ _ _)
   | (with_reducible exact laws_markInt64S.mono _ _ _)
   | (with_reducible exact laws_markJacobi.mono _ _ _ _ _)
   | (with_reducible exact laws_toJacobi.mono _ _ _ _)
   | (with_reducible exact spec_ExpandDerivative.mono _ _ _ _ _)
   | (with_reducible exact LeO.refl _)
   | (with_reducible exact LeO.none _)
   | (with_reducible refine LeO.ite ?_ ?_)
   | (with_reducible refine LeO.bind ?_ (fun _ => ?_))
   | exact ih0 _ _ _ _ _ _ _ _ _ _ _ _
   | exact ih1 _ _ _ _ _ _ _ _
   | exact ih2 _ _ _
   | exact impl_ExpandDerivative.mono _ _ _ _ _
   | exact laws_eqInt64S.mono _ _ _
   | exact laws_eqJacobi.mono _ _ _ _ _ _ _
   | exact laws_heldInt64S.mono _ _ _
   | exact laws_markInt64S.mono _ _ _
   | exact laws_markJacobi.mono _ _ _ _ _
   | exact laws_toJacobi.mono _ _ _ _
   | exact spec_ExpandDerivative.mono _ _ _ _ _
   | exact LeO.none _
   | refine LeO.ite ?_ ?_
   | refine LeO.bind ?_ (fun _ => ?_)
set_option maxHeartbeats 8000000 in
set_option maxRecDepth 100000 in
theorem laws_FnExactExpandDerivative.calls (k : Nat) (a0_0 : Int) (A0_1 : Option Addr) (c0_1 : Nat) (l0_1 : List Int) (A0_2 : Option Addr) (c0_2 : Nat) (l0_2 : List Int) (a1 : Int) (r : Bool) (w : World) (hr0_1 : Kd.C (Kd.int .i64) w A0_1 l0_1.length l0_1) (hc0_1 : l0_1.length ≤ c0_1) (hr0_2 : Kd.C (Kd.int .i64) w A0_2 l0_2.length l0_2) (hc0_2 : l0_2.length ≤ c0_2) (hT : Aside0 (r = true)) (h : laws_FnExactExpandDerivative.f k a0_0 l0_1 l0_2 a1 = some r) :
  Calls Try.prog 11 #[.agg #[.int .i64 a0_0, .slice A0_1 l0_1.length c0_1, .slice A0_2 l0_2.length c0_2], .int .i64 a1] w fun e w' => e = .returned (.bool r) ∧ Below w.heap.size w w' := by
 have hu24 := Try.underlying24
 have hu29 := Try.underlying29
 have HR0_1 := Aside0.mk hr0_1
 have HC0_1 := Aside0.mk hc0_1
 clear hr0_1 hc0_1
 have HR0_2 := Aside0.mk hr0_2
 have HC0_2 := Aside0.mk hc0_2
 clear hr0_2 hc0_2
 have HB := Aside0.mk (Below.refl w.heap.size w)
 have H : ((laws_szJacobi.f a0_0 l0_1 l0_2 1048576).bind fun t1115 => (if t1115 < 0 then (some true) else ((laws_toJacobi.f k a0_0 l0_1 l0_2).bind fun bt1116 => ((spec_ExpandDerivative.f k bt1116.1 bt1116.2.1 bt1116.2.2 a1).bind fun bt1123 => ((laws_toJacobi.f k a0_0 l0_1 l0_2).bind fun bt1127 => ((impl_ExpandDerivative.f k bt1127.1 bt1127.2.1 bt1127.2.2 a1).bind fun bt1135 => ((laws_eqInt64S.f k bt1135.1 bt1123.1).bind fun t1139 => (if t1139 = true then (laws_FnExactExpandDerivative.j0 k a1 bt1123.1 bt1123.2 bt1135.1 bt1135.2 (bt1135.2 != bt1123.2) a0_0 l0_1 l0_2 bt1127.1 bt1127.2.1 bt1127.2.2) else (laws_FnExactExpandDerivative.j0 k a1 bt1123.1 bt1123.2 bt1135.1 bt1135.2 true a0_0 l0_1 l0_2 bt1127.1 bt1127.2.1 bt1127.2.2))))))))) = some r := h
 clear h
 replace H := Option.bind_eq_some_iff.mp H
 obtain ⟨t1115, A30, H⟩ := H
 replace H : (if t1115 < 0 then (some true) else ((laws_toJacobi.f k a0_0 l0_1 l0_2).bind fun bt1116 => ((spec_ExpandDerivative.f k bt1116.1 bt1116.2.1 bt1116.2.2 a1).bind fun bt1123 => ((laws_toJacobi.f k a0_0 l0_1 l0_2).bind fun bt1127 => ((impl_ExpandDerivative.f k bt1127.1 bt1127.2.1 bt1127.2.2 a1).bind fun bt1135 => ((laws_eqInt64S.f k bt1135.1 bt1123.1).bind fun t1139 => (if t1139 = true then (laws_FnExactExpandDerivative.j0 k a1 bt1123.1 bt1123.2 bt1135.1 bt1135.2 (bt1135.2 != bt1123.2) a0_0 l0_1 l0_2 bt1127.1 bt1127.2.1 bt1127.2.2) else (laws_FnExactExpandDerivative.j0 k a1 bt1123.1 bt1123.2 bt1135.1 bt1135.2 true a0_0 l0_1 l0_2 bt1127.1 bt1127.2.1 bt1127.2.2)))))))) = some r := H
 have A3 := Aside0.mk A30
 clear A30
 by_cases c4 : t1115 < 0
 ·rw [if_pos c4] at H
  have c4b0 : decide (t1115 < 0) = true := decide_eq_true c4
  clear c4
  obtain rfl := Option.some.inj H
  go_enter Try.func11, Try.ntmps11
  go_wp2_with (first | ((with_reducible refine gate_dst (N := 2) rfl ?_); refine box_event ?hg (N := 2) ?hd (cs := #[.int .i64 a0_0, .slice A0_1 l0_1.length c0_1, .slice A0_2 l0_2.length c0_2]) (t := 24) ?hr ?_; (case hd => rfl); (case hg => rfl); (case hr => first | (go_simp; done) | (go_simp; rfl)); intro gb1114 hg w5 hbox hb; have n0_ := Aside0.mk (below_step ZB hb); have n1_ := Aside0.mk (hbox); have n2_ := Aside0.mk ((ZG hg : w.heap.size ≤ gb1114)); have n3_ := Aside0.mk ((ZG hg : w.heap.size ≤ gb1114)); clear HB; have HB := n0_; have BK1114 := n1_; have GW1114 := n2_; have GE1114 := n3_; clear n0_ n1_ n2_ n3_; clear hb hbox hg; obtain ⟨hcz6_0, hcz6_1, hcz6_2, hfz6_0, hfz6_1, hfz6_2⟩ := ZD3 BK1114) | ((with_reducible refine gate_callee (f := 14) rfl ?_); refine goesL_ (some 18) rfl rfl Try.func14 (by kernel_rfl) rfl #[.agg #[.int .i64 a0_0, .slice A0_1 l0_1.length c0_1, .slice A0_2 l0_2.length c0_2], .int .i64 1048576] rfl ZA ?_; (with_reducible refine (laws_szJacobi.calls a0_0 _ _ l0_1 _ _ l0_2 1048576 t1115 _ ?side1 ?side2 ?side3 ?side4 A3.out).mono ?_); (case side1 => exact ZC HR0_1); (case side2 => exact HC0_1.out); (case side3 => exact ZC HR0_2); (case side4 => exact HC0_2.out); rintro e w7 ⟨rfl, hb⟩; refine ⟨_, rfl, ?_⟩; have n0_ := ZL BK1114 hb; have n1_ := Aside0.mk (below_step ZB hb); clear BK1114; clear HB; have BK1114 := n0_; have HB := n1_; clear n0_ n1_; (try clear hb); (try clear hb2); (try clear hk); (try clear hi)))
  go_ret
  exact ⟨by first | rfl | (simp [errW_none, errW_some] <;> rfl) | (simp [*, errW_none, errW_some] <;> rfl), ZB⟩
 ·rw [if_neg c4] at H
  have c4b0 : decide (t1115 < 0) = false := decide_eq_false c4
  clear c4
  replace H := Option.bind_eq_some_iff.mp H
  obtain ⟨⟨t1116, t1117, t1120⟩, A80, H⟩ := H
  replace H : ((spec_ExpandDerivative.f k t1116 t1117 t1120 a1).bind fun bt1123 => ((laws_toJacobi.f k a0_0 l0_1 l0_2).bind fun bt1127 => ((impl_ExpandDerivative.f k bt1127.1 bt1127.2.1 bt1127.2.2 a1).bind fun bt1135 => ((laws_eqInt64S.f k bt1135.1 bt1123.1).bind fun t1139 => (if t1139 = true then (laws_FnExactExpandDerivative.j0 k a1 bt1123.1 bt1123.2 bt1135.1 bt1135.2 (bt1135.2 != bt1123.2) a0_0 l0_1 l0_2 bt1127.1 bt1127.2.1 bt1127.2.2) else (laws_FnExactExpandDerivative.j0 k a1 bt1123.1 bt1123.2 bt1135.1 bt1135.2 true a0_0 l0_1 l0_2 bt1127.1 bt1127.2.1 bt1127.2.2)))))) = some r := H
  have A8 := Aside0.mk A80
  clear A80
  replace H := Option.bind_eq_some_iff.mp H
  obtain ⟨⟨t1123, t1126⟩, A90, H⟩ := H
  replace H : ((laws_toJacobi.f k a0_0 l0_1 l0_2).bind fun bt1127 => ((impl_ExpandDerivative.f k bt1127.1 bt1127.2.1 bt1127.2.2 a1).bind fun bt1135 => ((laws_eqInt64S.f k bt1135.1 t1123).bind fun t1139 => (if t1139 = true then (laws_FnExactExpandDerivative.j0 k a1 t1123 t1126 bt1135.1 bt1135.2 (bt1135.2 != t1126) a0_0 l0_1 l0_2 bt1127.1 bt1127.2.1 bt1127.2.2) else (laws_FnExactExpandDerivative.j0 k a1 t1123 t1126 bt1135.1 bt1135.2 true a0_0 l0_1 l0_2 bt1127.1 bt1127.2.1 bt1127.2.2))))) = some r := H
  have A9 := Aside0.mk A90
  clear A90
  replace H := Option.bind_eq_some_iff.mp H
  obtain ⟨⟨t1127, t1128, t1131⟩, A100, H⟩ := H
  replace H : ((impl_ExpandDerivative.f k t1127 t1128 t1131 a1).bind fun bt1135 => ((laws_eqInt64S.f k bt1135.1 t1123).bind fun t1139 => (if t1139 = true then (laws_FnExactExpandDerivative.j0 k a1 t1123 t1126 bt1135.1 bt1135.2 (bt1135.2 != t1126) a0_0 l0_1 l0_2 t1127 t1128 t1131) else (laws_FnExactExpandDerivative.j0 k a1 t1123 t1126 bt1135.1 bt1135.2 true a0_0 l0_1 l0_2 t1127 t1128 t1131)))) = some r := H
  have A10 := Aside0.mk A100
  clear A100
  replace H := Option.bind_eq_some_iff.mp H
  obtain ⟨⟨t1135, t1138⟩, A110, H⟩ := H
  replace H : ((laws_eqInt64S.f k t1135 t1123).bind fun t1139 => (if t1139 = true then (laws_FnExactExpandDerivative.j0 k a1 t1123 t1126 t1135 t1138 (t1138 != t1126) a0_0 l0_1 l0_2 t1127 t1128 t1131) else (laws_FnExactExpandDerivative.j0 k a1 t1123 t1126 t1135 t1138 true a0_0 l0_1 l0_2 t1127 t1128 t1131))) = some r := H
  have A11 := Aside0.mk A110
  clear A110
  have HC12 := Aside0.mk H
  clear H
  go_enter Try.func11, Try.ntmps11
  go_upto_region 8 with (first | ((with_reducible refine gate_dst (N := 2) rfl ?_); refine box_event ?hg (N := 2) ?hd (cs := #[.int .i64 a0_0, .slice A0_1 l0_1.length c0_1, .slice A0_2 l0_2.length c0_2]) (t := 24) ?hr ?_; (case hd => rfl); (case hg => rfl); (case hr => first | (go_simp; done) | (go_simp; rfl)); intro gb1114 hg w13 hbox hb; have n0_ := Aside0.mk (below_step ZB hb); have n1_ := Aside0.mk (hbox); have n2_ := Aside0.mk ((ZG hg : w.heap.size ≤ gb1114)); have n3_ := Aside0.mk ((ZG hg : w.heap.size ≤ gb1114)); clear HB; have HB := n0_; have BK1114 := n1_; have GW1114 := n2_; have GE1114 := n3_; clear n0_ n1_ n2_ n3_; clear hb hbox hg; obtain ⟨hcz14_0, hcz14_1, hcz14_2, hfz14_0, hfz14_1, hfz14_2⟩ := ZD3 BK1114) | ((with_reducible refine gate_callee (f := 14) rfl ?_); refine goesL_ (some 18) rfl rfl Try.func14 (by kernel_rfl) rfl #[.agg #[.int .i64 a0_0, .slice A0_1 l0_1.length c0_1, .slice A0_2 l0_2.length c0_2], .int .i64 1048576] rfl ZA ?_; (with_reducible refine (laws_szJacobi.calls a0_0 _ _ l0_1 _ _ l0_2 1048576 t1115 _ ?side1 ?side2 ?side3 ?side4 A3.out).mono ?_); (case side1 => exact ZC HR0_1); (case side2 => exact HC0_1.out); (case side3 => exact ZC HR0_2); (case side4 => exact HC0_2.out); rintro e w15 ⟨rfl, hb⟩; refine ⟨_, rfl, ?_⟩; have n0_ := ZL BK1114 hb; have n1_ := Aside0.mk (below_step ZB hb); clear BK1114; clear HB; have BK1114 := n0_; have HB := n1_; clear n0_ n1_; (try clear hb); (try clear hb2); (try clear hk); (try clear hi); obtain ⟨hcz16_0, hcz16_1, hcz16_2, hfz16_0, hfz16_1, hfz16_2⟩ := ZD3 BK1114) | ((with_reducible refine gate_callee (f := 16) rfl ?_); refine goesL_ (some 23) rfl rfl Try.func16 (by kernel_rfl) rfl #[.agg #[.int .i64 a0_0, .slice A0_1 l0_1.length c0_1, .slice A0_2 l0_2.length c0_2]] rfl ZA ?_; (with_reducible refine (laws_toJacobi.calls k a0_0 _ _ l0_1 _ _ l0_2 t1116 t1117 t1120 _ ?side1 ?side2 ?side3 ?side4 A8.out).mono ?_); (case side1 => exact ZC HR0_1); (case side2 => exact HC0_1.out); (case side3 => exact ZC HR0_2); (case side4 => exact HC0_2.out); rintro e w17 ⟨v1118, v1121, rfl, ho0, ho1, hb⟩; refine ⟨_, rfl, ?_⟩; have n0_ := Aside0.mk (Kd.R_lower ho0 (below_size ZB)); have n1_ := Aside0.mk (Kd.R_lower ho1 (below_size ZB)); have n2_ := ZL BK1114 hb; have n3_ := Aside0.mk (below_step ZB hb); clear BK1114; clear HB; have HO1119 := n0_; have HO1122 := n1_; have BK1114 := n2_; have HB := n3_; clear n0_ n1_ n2_ n3_; (try clear hb); (try clear hb2); (try clear hk); (try clear hi); (try clear ho0); (try clear ho1); obtain ⟨Ao18, co18, eo18⟩ := Kd.R_slice HO1119.out; subst eo18; obtain ⟨Ao19, co19, eo19⟩ := Kd.R_slice HO1122.out; subst eo19) | ((with_reducible refine gate_callee (f := 42) rfl ?_); refine goesL_ (some 25) rfl rfl Try.func42 (by kernel_rfl) rfl #[.agg #[.int .i64 t1116, .slice Ao18 t1117.length co18, .slice Ao19 t1120.length co19], .int .i64 a1] rfl ZA ?_; (with_reducible refine (spec_ExpandDerivative.calls k t1116 _ _ t1117 _ _ t1120 a1 t1123 t1126 _ ?side1 ?side2 ?side3 ?side4 A9.out).mono ?_); (case side1 => repeat (first | exact (Kd.R_reads' HO1119.out).2.2 | (with_reducible refine Kd.C_alloc ?_ _) | (with_reducible refine Kd.C_drewN ?_ _) | (with_reducible refine Kd.C_drew ?_))); (case side2 => exact (Kd.R_reads' HO1119.out).2.1); (case side3 => repeat (first | exact (Kd.R_reads' HO1122.out).2.2 | (with_reducible refine Kd.C_alloc ?_ _) | (with_reducible refine Kd.C_drewN ?_ _) | (with_reducible refine Kd.C_drew ?_))); (case side4 => exact (Kd.R_reads' HO1122.out).2.1); rintro e w20 ⟨v1124, rfl, ho0, hb⟩; refine ⟨_, rfl, ?_⟩; have n0_ := Aside0.mk (Kd.R_elder' (ZR HO1119) (Kd.R_base ho0) hb); have n1_ := Aside0.mk (Kd.R_elder' (ZR HO1122) (Kd.R_base ho0) hb); have n2_ := Aside0.mk (Kd.R_lower (Kd.R_new' (Kd.R_new' ho0 (Kd.R_lt (ZR HO1119))) (Kd.R_lt (ZR HO1122))) (below_size ZB)); have n3_ := ZL BK1114 hb; have n4_ := Aside0.mk (below_step ZB hb); clear HO1119; clear HO1122; clear BK1114; clear HB; have HO1119 := n0_; have HO1122 := n1_; have HO1125 := n2_; have BK1114 := n3_; have HB := n4_; clear n0_ n1_ n2_ n3_ n4_; (try clear hb); (try clear hb2); (try clear hk); (try clear hi); (try clear ho0); obtain ⟨hcz21_0, hcz21_1, hcz21_2, hfz21_0, hfz21_1, hfz21_2⟩ := ZD3 BK1114) | ((with_reducible refine gate_callee (f := 16) rfl ?_); refine goesL_ (some 29) rfl rfl Try.func16 (by kernel_rfl) rfl #[.agg #[.int .i64 a0_0, .slice A0_1 l0_1.length c0_1, .slice A0_2 l0_2.length c0_2]] rfl ZA ?_; (with_reducible refine (laws_toJacobi.calls k a0_0 _ _ l0_1 _ _ l0_2 t1127 t1128 t1131 _ ?side1 ?side2 ?side3 ?side4 A10.out).mono ?_); (case side1 => exact ZC HR0_1); (case side2 => exact HC0_1.out); (case side3 => exact ZC HR0_2); (case side4 => exact HC0_2.out); rintro e w22 ⟨v1129, v1132, rfl, ho0, ho1, hb⟩; refine ⟨_, rfl, ?_⟩; have n0_ := Aside0.mk (Kd.R_mono (Kd.R_told (Kd.R_told (Kd.R_old (ZR HO1119) hb) (Kd.R_base ho0)) (Kd.R_base ho1)) (fun _ h_ => h_.1)); have n1_ := Aside0.mk (Kd.R_mono (Kd.R_told (Kd.R_told (Kd.R_old (ZR HO1122) hb) (Kd.R_base ho0)) (Kd.R_base ho1)) (fun _ h_ => h_.1)); have n2_ := Aside0.mk (Kd.R_mono (Kd.R_told (Kd.R_told (Kd.R_old (ZR HO1125) hb) (Kd.R_base ho0)) (Kd.R_base ho1)) (fun _ h_ => h_.1)); have n3_ := Aside0.mk (Kd.R_lower (Kd.R_new' (Kd.R_new' (Kd.R_new' ho0 (Kd.R_lt (ZR HO1119))) (Kd.R_lt (ZR HO1122))) (Kd.R_lt (ZR HO1125))) (below_size ZB)); have n4_ := Aside0.mk (Kd.R_lower (Kd.R_new' (Kd.R_new' (Kd.R_new' ho1 (Kd.R_lt (ZR HO1119))) (Kd.R_lt (ZR HO1122))) (Kd.R_lt (ZR HO1125))) (below_size ZB)); have n5_ := ZL BK1114 hb; have n6_ := Aside0.mk (below_step ZB hb); clear HO1119; clear HO1122; clear HO1125; clear BK1114; clear HB; have HO1119 := n0_; have HO1122 := n1_; have HO1125 := n2_; have HO1130 := n3_; have HO1133 := n4_; have BK1114 := n5_; have HB := n6_; clear n0_ n1_ n2_ n3_ n4_ n5_ n6_; (try clear hb); (try clear hb2); (try clear hk); (try clear hi); (try clear ho0); (try clear ho1)) | ((with_reducible refine gate_dst (N := 8) rfl ?_); refine box_event ?hg (N := 8) ?hd (cs := #[.int .i64 0, .slice none 0 0, .slice none 0 0]) (t := 29) ?hr ?_; (case hd => rfl); (case hg => rfl); (case hr => first | (go_simp; done) | (go_simp; rfl)); intro gb1134 hg w23 hbox hb; have n0_ := Aside0.mk (Kd.R_below (ZR HO1119) hb); have n1_ := Aside0.mk (Kd.R_below (ZR HO1122) hb); have n2_ := Aside0.mk (Kd.R_below (ZR HO1125) hb); have n3_ := Aside0.mk (Kd.R_below (ZR HO1130) hb); have n4_ := Aside0.mk (Kd.R_below (ZR HO1133) hb); have n5_ := ZL BK1114 hb; have n6_ := Aside0.mk (below_step ZB hb); have n7_ := Aside0.mk (hbox); have n8_ := Aside0.mk ((ZG hg : w.heap.size ≤ gb1134)); have n9_ := Aside0.mk ((ZG hg : w.heap.size ≤ gb1134)); have n10_ := Aside0.mk ((ZN hg BK1114 : gb1114 ≠ gb1134)); have n11_ := Aside0.mk ((ZM hg BK1114 : gb1134 ≠ gb1114)); clear HO1119; clear HO1122; clear HO1125; clear HO1130; clear HO1133; clear BK1114; clear HB; have HO1119 := n0_; have HO1122 := n1_; have HO1125 := n2_; have HO1130 := n3_; have HO1133 := n4_; have BK1114 := n5_; have HB := n6_; have BK1134 := n7_; have GW1134 := n8_; have GE1134 := n9_; have NB1114_1134 := n10_; have NB1134_1114 := n11_; clear n0_ n1_ n2_ n3_ n4_ n5_ n6_ n7_ n8_ n9_ n10_ n11_; clear hb hbox hg; have hnb24 := NB1134_1114.out; have hnc24 := NB1114_1134.out; obtain ⟨hcz25_0, hcz25_1, hcz25_2, hfz25_0, hfz25_1, hfz25_2⟩ := ZD3 BK1134; obtain ⟨Ao26, co26, eo26⟩ := Kd.R_slice HO1130.out; subst eo26; obtain ⟨Ao27, co27, eo27⟩ := Kd.R_slice HO1133.out; subst eo27) | ((with_reducible refine gate_callee (f := 43) rfl ?_); refine goesL_ (some 33) rfl rfl Try.func43 (by kernel_rfl) rfl #[.agg #[.int .i64 t1127, .slice Ao26 t1128.length co26, .slice Ao27 t1131.length co27], .int .i64 a1] rfl ZA ?_; (with_reducible refine (impl_ExpandDerivative.calls k t1127 _ _ t1128 _ _ t1131 a1 t1135 t1138 _ ?side1 ?side2 ?side3 ?side4 A11.out).mono ?_); (case side1 => refine (Kd.R_reads' (e := 2) (base := w.heap.size) (ok := fun k_ => (((some k_ ≠ (.slice Ao27 t1131.length co27 : Value).ownBlock ∧ some k_ ≠ (.slice Ao18 t1117.length co18 : Value).ownBlock) ∧ some k_ ≠ (.slice Ao19 t1120.length co19 : Value).ownBlock) ∧ some k_ ≠ (v1124 : Value).ownBlock)) (n := t1128.length) (c := co26) ?_).2.2; exact (ZQ (ZF3 HO1130 BK1134 (.int .i64 t1127) (.slice Ao26 t1128.length co26) (.slice Ao27 t1131.length co27)))); (case side2 => exact (Kd.R_reads' HO1130.out).2.1); (case side3 => refine (Kd.R_reads' (e := 2) (base := w.heap.size) (ok := fun k_ => (((some k_ ≠ (.slice Ao26 t1128.length co26 : Value).ownBlock ∧ some k_ ≠ (.slice Ao18 t1117.length co18 : Value).ownBlock) ∧ some k_ ≠ (.slice Ao19 t1120.length co19 : Value).ownBlock) ∧ some k_ ≠ (v1124 : Value).ownBlock)) (n := t1131.length) (c := co27) ?_).2.2; exact (ZQ (ZF3 HO1133 BK1134 (.int .i64 t1127) (.slice Ao26 t1128.length co26) (.slice Ao27 t1131.length co27)))); (case side4 => exact (Kd.R_reads' HO1133.out).2.1); rintro e w28 ⟨v1136, rfl, ho0, hb⟩; refine ⟨_, rfl, ?_⟩; have n0_ := Aside0.mk (Kd.R_elder' (ZQ (ZF3 HO1119 BK1134 (.int .i64 t1127) (.slice Ao26 t1128.length co26) (.slice Ao27 t1131.length co27))) (Kd.R_base ho0) hb); have n1_ := Aside0.mk (Kd.R_elder' (ZQ (ZF3 HO1122 BK1134 (.int .i64 t1127) (.slice Ao26 t1128.length co26) (.slice Ao27 t1131.length co27))) (Kd.R_base ho0) hb); have n2_ := Aside0.mk (Kd.R_elder' (ZQ (ZF3 HO1125 BK1134 (.int .i64 t1127) (.slice Ao26 t1128.length co26) (.slice Ao27 t1131.length co27))) (Kd.R_base ho0) hb); have n3_ := Aside0.mk (Kd.R_elder' (ZQ (ZF3 HO1130 BK1134 (.int .i64 t1127) (.slice Ao26 t1128.length co26) (.slice Ao27 t1131.length co27))) (Kd.R_base ho0) hb); have n4_ := Aside0.mk (Kd.R_elder' (ZQ (ZF3 HO1133 BK1134 (.int .i64 t1127) (.slice Ao26 t1128.length co26) (.slice Ao27 t1131.length co27))) (Kd.R_base ho0) hb); have n5_ := Aside0.mk (Kd.R_lower (Kd.R_new' (Kd.R_new' (Kd.R_new' (Kd.R_new' (Kd.R_new' ho0 (Kd.R_lt (ZQ (ZF3 HO1119 BK1134 (.int .i64 t1127) (.slice Ao26 t1128.length co26) (.slice Ao27 t1131.length co27))))) (Kd.R_lt (ZQ (ZF3 HO1122 BK1134 (.int .i64 t1127) (.slice Ao26 t1128.length co26) (.slice Ao27 t1131.length co27))))) (Kd.R_lt (ZQ (ZF3 HO1125 BK1134 (.int .i64 t1127) (.slice Ao26 t1128.length co26) (.slice Ao27 t1131.length co27))))) (Kd.R_lt (ZQ (ZF3 HO1130 BK1134 (.int .i64 t1127) (.slice Ao26 t1128.length co26) (.slice Ao27 t1131.length co27))))) (Kd.R_lt (ZQ (ZF3 HO1133 BK1134 (.int .i64 t1127) (.slice Ao26 t1128.length co26) (.slice Ao27 t1131.length co27))))) (below_size ZB)); have n6_ := Aside0.mk (blk_below (g := gb1114) (o := .cells #[.int .i64 a0_0, .slice A0_1 l0_1.length c0_1, .slice A0_2 l0_2.length c0_2] 24 (0, 0)) (by refine ZS ?_; refine blk_far ?_ NB1114_1134.out _; refine ZS ?_; refine blk_far ?_ NB1114_1134.out _; refine ZS ?_; refine blk_far ?_ NB1114_1134.out _; refine ZS ?_; exact BK1114.out) hb); have n7_ := Aside0.mk (blk_below (g := gb1134) (o := .cells #[.int .i64 t1127, .slice Ao26 t1128.length co26, .slice Ao27 t1131.length co27] 29 (0, 0)) (by refine ZS ?_; refine blk_put (cs := #[.int .i64 t1127, .slice Ao26 t1128.length co26, .slice none 0 0]) ?_ 2 _ rfl; refine ZS ?_; refine blk_put (cs := #[.int .i64 t1127, .slice none 0 0, .slice none 0 0]) ?_ 1 _ rfl; refine ZS ?_; refine blk_put (cs := #[.int .i64 0, .slice none 0 0, .slice none 0 0]) ?_ 0 _ rfl; refine ZS ?_; exact BK1134.out) hb); have n8_ := Aside0.mk (below_step ZB hb); clear HO1119; clear HO1122; clear HO1125; clear HO1130; clear HO1133; clear BK1114; clear BK1134; clear HB; have HO1119 := n0_; have HO1122 := n1_; have HO1125 := n2_; have HO1130 := n3_; have HO1133 := n4_; have HO1137 := n5_; have BK1114 := n6_; have BK1134 := n7_; have HB := n8_; clear n0_ n1_ n2_ n3_ n4_ n5_ n6_ n7_ n8_; (try clear hb); (try clear hb2); (try clear hk); (try clear hi); (try clear ho0)))
  (try simp only [Act.put, List.setIfInBounds_toArray, List.set_cons_zero, List.set_cons_succ])
  go_cut [44] (fun v44 wc => ∃ (kq : Nat) (x44_11 : Bool), v44 = .bool x44_11 ∧ Aside0 (laws_FnExactExpandDerivative.j0 kq a1 t1123 t1126 t1135 t1138 x44_11 a0_0 l0_1 l0_2 t1127 t1128 t1131 = some r) ∧ Aside0 (kq ≤ k) ∧ Aside0 (Kd.R (Kd.int .i64) 2 wc w.heap.size (fun k_ => some k_ ≠ (v1136 : Value).ownBlock ∧ some k_ ≠ ((.slice Ao26 t1128.length co26) : Value).ownBlock ∧ some k_ ≠ ((.slice Ao27 t1131.length co27) : Value).ownBlock) v1124 t1123) ∧ Aside0 (Kd.R (Kd.int .i64) 2 wc w.heap.size (fun k_ => some k_ ≠ (v1124 : Value).ownBlock ∧ some k_ ≠ ((.slice Ao26 t1128.length co26) : Value).ownBlock ∧ some k_ ≠ ((.slice Ao27 t1131.length co27) : Value).ownBlock) v1136 t1135) ∧ Aside0 (Kd.R (Kd.int .i64) 2 wc w.heap.size (fun k_ => some k_ ≠ (v1124 : Value).ownBlock ∧ some k_ ≠ (v1136 : Value).ownBlock ∧ some k_ ≠ ((.slice Ao27 t1131.length co27) : Value).ownBlock) (.slice Ao26 t1128.length co26) t1128) ∧ Aside0 (Kd.R (Kd.int .i64) 2 wc w.heap.size (fun k_ => some k_ ≠ (v1124 : Value).ownBlock ∧ some k_ ≠ (v1136 : Value).ownBlock ∧ some k_ ≠ ((.slice Ao26 t1128.length co26) : Value).ownBlock) (.slice Ao27 t1131.length co27) t1131) ∧ Aside0 (wc.heap[gb1114]? = some (.cells #[.int .i64 a0_0, (.slice A0_1 l0_1.length c0_1), (.slice A0_2 l0_2.length c0_2)] 24 (0, 0))) ∧ Aside0 (wc.heap[gb1134]? = some (.cells #[.int .i64 t1127, (.slice Ao26 t1128.length co26), (.slice Ao27 t1131.length co27)] 29 (0, 0))) ∧ Aside0 (Below w.heap.size w wc))
  case first =>
   have H := HC12.out
   clear HC12
   replace H := Option.bind_eq_some_iff.mp H
   obtain ⟨t1139, A290, H⟩ := H
   replace H : (if t1139 = true then (laws_FnExactExpandDerivative.j0 k a1 t1123 t1126 t1135 t1138 (t1138 != t1126) a0_0 l0_1 l0_2 t1127 t1128 t1131) else (laws_FnExactExpandDerivative.j0 k a1 t1123 t1126 t1135 t1138 true a0_0 l0_1 l0_2 t1127 t1128 t1131)) = some r := H
   have A29 := Aside0.mk A290
   clear A290
   by_cases c30 : t1139 = true
   ·subst c30
    have H1 : (laws_FnExactExpandDerivative.j0 k a1 t1123 t1126 t1135 t1138 (t1138 != t1126) a0_0 l0_1 l0_2 t1127 t1128 t1131) = some r := by rw [if_pos rfl] at H; exact H
    clear H
    have H := H1
    clear H1
    have H' := Aside0.mk H
    clear H
    obtain ⟨Ao31, co31, eo31⟩ := Kd.R_slice HO1137.out
    subst eo31
    obtain ⟨Ao32, co32, eo32⟩ := Kd.R_slice HO1125.out
    subst eo32
    go_wp2_with (first | ((with_reducible refine gate_callee (f := 29) rfl ?_); refine goesL_ (some 38) rfl rfl Try.func29 (by kernel_rfl) rfl #[.slice Ao31 t1135.length co31, .slice Ao32 t1123.length co32] rfl ZA ?_; (with_reducible refine (laws_eqInt64S.calls k _ _ t1135 _ _ t1123 true _ ?side1 ?side2 ?side3 ?side4 A29.out).mono ?_); (case side1 => repeat (first | exact (Kd.R_reads' HO1137.out).2.2 | (with_reducible refine Kd.C_alloc ?_ _) | (with_reducible refine Kd.C_drewN ?_ _) | (with_reducible refine Kd.C_drew ?_))); (case side2 => exact (Kd.R_reads' HO1137.out).2.1); (case side3 => repeat (first | exact (Kd.R_reads' HO1125.out).2.2 | (with_reducible refine Kd.C_alloc ?_ _) | (with_reducible refine Kd.C_drewN ?_ _) | (with_reducible refine Kd.C_drew ?_))); (case side4 => exact (Kd.R_reads' HO1125.out).2.1); rintro e w' ⟨rfl, ⟨nd, rfl⟩⟩; refine ⟨_, rfl, ?_⟩))
    go_meet
    case rel => exact ⟨_, ((t1138 != t1126)), (by first | rfl | (simp; done) | (simp [*]; done)), H', ⟨by first | omega | exact Nat.le_refl _⟩, ⟨by refine ZQ ?_; exact Kd.R_mono HO1125.out (fun _ hk => (And.intro (hk.2) ((And.intro (hk.1.1.2) (hk.1.2)))))⟩, ⟨by refine ZQ ?_; exact Kd.R_mono HO1137.out (fun _ hk => (And.intro (hk.1.1.2) ((And.intro (hk.1.2) (hk.2)))))⟩, ⟨by refine ZQ ?_; exact Kd.R_mono HO1130.out (fun _ hk => (And.intro (hk.1.2) ((And.intro (hk.2) (hk.1.1.1.1)))))⟩, ⟨by refine ZQ ?_; exact Kd.R_mono HO1133.out (fun _ hk => (And.intro (hk.1.2) ((And.intro (hk.2) (hk.1.1.1.1)))))⟩, ⟨ZK BK1114⟩, ⟨ZK BK1134⟩, ⟨ZB⟩⟩
   ·replace c30 := Bool.eq_false_iff.mpr c30
    subst c30
    have H1 : (laws_FnExactExpandDerivative.j0 k a1 t1123 t1126 t1135 t1138 true a0_0 l0_1 l0_2 t1127 t1128 t1131) = some r := by rw [if_neg (show ¬ (false = true) by decide)] at H; exact H
    clear H
    have H := H1
    clear H1
    have H' := Aside0.mk H
    clear H
    obtain ⟨Ao33, co33, eo33⟩ := Kd.R_slice HO1137.out
    subst eo33
    obtain ⟨Ao34, co34, eo34⟩ := Kd.R_slice HO1125.out
    subst eo34
    go_wp2_with (first | ((with_reducible refine gate_callee (f := 29) rfl ?_); refine goesL_ (some 38) rfl rfl Try.func29 (by kernel_rfl) rfl #[.slice Ao33 t1135.length co33, .slice Ao34 t1123.length co34] rfl ZA ?_; (with_reducible refine (laws_eqInt64S.calls k _ _ t1135 _ _ t1123 false _ ?side1 ?side2 ?side3 ?side4 A29.out).mono ?_); (case side1 => repeat (first | exact (Kd.R_reads' HO1137.out).2.2 | (with_reducible refine Kd.C_alloc ?_ _) | (with_reducible refine Kd.C_drewN ?_ _) | (with_reducible refine Kd.C_drew ?_))); (case side2 => exact (Kd.R_reads' HO1137.out).2.1); (case side3 => repeat (first | exact (Kd.R_reads' HO1125.out).2.2 | (with_reducible refine Kd.C_alloc ?_ _) | (with_reducible refine Kd.C_drewN ?_ _) | (with_reducible refine Kd.C_drew ?_))); (case side4 => exact (Kd.R_reads' HO1125.out).2.1); rintro e w' ⟨rfl, ⟨nd, rfl⟩⟩; refine ⟨_, rfl, ?_⟩))
    go_meet
    case rel => exact ⟨_, (true), (by first | rfl | (simp; done) | (simp [*]; done)), H', ⟨by first | omega | exact Nat.le_refl _⟩, ⟨by refine ZQ ?_; exact Kd.R_mono HO1125.out (fun _ hk => (And.intro (hk.2) ((And.intro (hk.1.1.2) (hk.1.2)))))⟩, ⟨by refine ZQ ?_; exact Kd.R_mono HO1137.out (fun _ hk => (And.intro (hk.1.1.2) ((And.intro (hk.1.2) (hk.2)))))⟩, ⟨by refine ZQ ?_; exact Kd.R_mono HO1130.out (fun _ hk => (And.intro (hk.1.2) ((And.intro (hk.2) (hk.1.1.1.1)))))⟩, ⟨by refine ZQ ?_; exact Kd.R_mono HO1133.out (fun _ hk => (And.intro (hk.1.2) ((And.intro (hk.2) (hk.1.1.1.1)))))⟩, ⟨ZK BK1114⟩, ⟨ZK BK1134⟩, ⟨ZB⟩⟩
  case rest =>
   clear HC12
   try clear c1
   try clear c2
   try clear p2
   try clear c3
   try clear c4
   try clear c4b0
   try clear c11
   try clear c14
   try clear c16
   try clear c24
   try clear c29
   try clear c30
   try clear hcz14_0
   try clear hcz14_1
   try clear hcz14_2
   try clear hcz16_0
   try clear hcz16_1
   try clear hcz16_2
   try clear hcz21_0
   try clear hcz21_1
   try clear hcz21_2
   try clear hcz25_0
   try clear hcz25_1
   try clear hcz25_2
   try clear hcz6_0
   try clear hcz6_1
   try clear hcz6_2
   try clear hfz14_0
   try clear hfz14_1
   try clear hfz14_2
   try clear hfz16_0
   try clear hfz16_1
   try clear hfz16_2
   try clear hfz21_0
   try clear hfz21_1
   try clear hfz21_2
   try clear hfz25_0
   try clear hfz25_1
   try clear hfz25_2
   try clear hfz6_0
   try clear hfz6_1
   try clear hfz6_2
   obtain ⟨kq, x44_11, rfl, HA, HJ11, HO_6, HO_9, HO_1135001, HO_1135002, BK1114, BK1134, HB⟩ := hcut
   cases kq with
   | zero => exact absurd HA.out (by simp [laws_FnExactExpandDerivative.j0])
   | succ kj11 =>
    have H := HA.out
    clear HA
    simp only [laws_FnExactExpandDerivative.j0] at H
    by_cases c35 : x44_11 = true
    ·subst c35
     have H1 : (some false) = some r := by rw [if_pos rfl] at H; exact H
     clear H
     have H := H1
     clear H1
     exact absurd (H.trans (congrArg some hT.out)) (by simp)
    ·replace c35 := Bool.eq_false_iff.mpr c35
     subst c35
     have H1 : ((laws_toJacobi.f kj11 a0_0 l0_1 l0_2).bind fun bt1140 => ((laws_eqJacobi.f kj11 t1127 t1128 t1131 bt1140.1 bt1140.2.1 bt1140.2.2).bind fun t1147 => (if t1147 = true then ((laws_markJacobi.f kj11 t1127 t1128 t1131 1).bind fun bt1148 => (if bt1148.1 < 0 then (laws_FnExactExpandDerivative.j1 kj11 a1 t1123 t1126 t1135 true a0_0 l0_1 l0_2) else ((laws_eqInt64S.f kj11 t1135 t1123).bind fun t1151 => (if t1151 = true then (laws_FnExactExpandDerivative.j1 kj11 a1 t1123 t1126 t1135 (t1138 != t1126) a0_0 l0_1 l0_2) else (laws_FnExactExpandDerivative.j1 kj11 a1 t1123 t1126 t1135 true a0_0 l0_1 l0_2))))) else (some false)))) = some r := by rw [if_neg (show ¬ (false = true) by decide)] at H; exact H
     clear H
     have H := H1
     clear H1
     replace H := Option.bind_eq_some_iff.mp H
     obtain ⟨⟨t1140, t1141, t1144⟩, A360, H⟩ := H
     replace H : ((laws_eqJacobi.f kj11 t1127 t1128 t1131 t1140 t1141 t1144).bind fun t1147 => (if t1147 = true then ((laws_markJacobi.f kj11 t1127 t1128 t1131 1).bind fun bt1148 => (if bt1148.1 < 0 then (laws_FnExactExpandDerivative.j1 kj11 a1 t1123 t1126 t1135 true a0_0 l0_1 l0_2) else ((laws_eqInt64S.f kj11 t1135 t1123).bind fun t1151 => (if t1151 = true then (laws_FnExactExpandDerivative.j1 kj11 a1 t1123 t1126 t1135 (t1138 != t1126) a0_0 l0_1 l0_2) else (laws_FnExactExpandDerivative.j1 kj11 a1 t1123 t1126 t1135 true a0_0 l0_1 l0_2))))) else (some false))) = some r := H
     have A36 := Aside0.mk A360
     clear A360
     replace H := Option.bind_eq_some_iff.mp H
     obtain ⟨t1147, A370, H⟩ := H
     replace H : (if t1147 = true then ((laws_markJacobi.f kj11 t1127 t1128 t1131 1).bind fun bt1148 => (if bt1148.1 < 0 then (laws_FnExactExpandDerivative.j1 kj11 a1 t1123 t1126 t1135 true a0_0 l0_1 l0_2) else ((laws_eqInt64S.f kj11 t1135 t1123).bind fun t1151 => (if t1151 = true then (laws_FnExactExpandDerivative.j1 kj11 a1 t1123 t1126 t1135 (t1138 != t1126) a0_0 l0_1 l0_2) else (laws_FnExactExpandDerivative.j1 kj11 a1 t1123 t1126 t1135 true a0_0 l0_1 l0_2))))) else (some false)) = some r := H
     have A37 := Aside0.mk A370
     clear A370
     by_cases c38 : t1147 = true
     ·subst c38
      have H1 : ((laws_markJacobi.f kj11 t1127 t1128 t1131 1).bind fun bt1148 => (if bt1148.1 < 0 then (laws_FnExactExpandDerivative.j1 kj11 a1 t1123 t1126 t1135 true a0_0 l0_1 l0_2) else ((laws_eqInt64S.f kj11 t1135 t1123).bind fun t1151 => (if t1151 = true then (laws_FnExactExpandDerivative.j1 kj11 a1 t1123 t1126 t1135 (t1138 != t1126) a0_0 l0_1 l0_2) else (laws_FnExactExpandDerivative.j1 kj11 a1 t1123 t1126 t1135 true a0_0 l0_1 l0_2))))) = some r := by rw [if_pos rfl] at H; exact H
      clear H
      have H := H1
      clear H1
      replace H := Option.bind_eq_some_iff.mp H
      obtain ⟨⟨t1148, t1149, t1150⟩, A390, H⟩ := H
      replace H : (if t1148 < 0 then (laws_FnExactExpandDerivative.j1 kj11 a1 t1123 t1126 t1135 true a0_0 l0_1 l0_2) else ((laws_eqInt64S.f kj11 t1135 t1123).bind fun t1151 => (if t1151 = true then (laws_FnExactExpandDerivative.j1 kj11 a1 t1123 t1126 t1135 (t1138 != t1126) a0_0 l0_1 l0_2) else (laws_FnExactExpandDerivative.j1 kj11 a1 t1123 t1126 t1135 true a0_0 l0_1 l0_2)))) = some r := H
      have A39 := Aside0.mk A390
      clear A390
      have HC40 := Aside0.mk H
      clear H
      try go_wp2
      have n0_ := Aside0.mk (Kd.R_drew HO_6.out)
      have n1_ := Aside0.mk (Kd.R_drew HO_9.out)
      have n2_ := Aside0.mk (Kd.R_drew HO_1135001.out)
      have n3_ := Aside0.mk (Kd.R_drew HO_1135002.out)
      have n4_ := Aside0.mk (blk_drew BK1114.out)
      have n5_ := Aside0.mk (blk_drew BK1134.out)
      have n6_ := Aside0.mk (below_drew1 HB.out)
      clear HO_6
      clear HO_9
      clear HO_1135001
      clear HO_1135002
      clear BK1114
      clear BK1134
      clear HB
      have HO_6 := n0_
      have HO_9 := n1_
      have HO_1135001 := n2_
      have HO_1135002 := n3_
      have BK1114 := n4_
      have BK1134 := n5_
      have HB := n6_
      clear n0_ n1_ n2_ n3_ n4_ n5_ n6_
      refine start_ (n := 5) (S := fun w' => w'.cell? ⟨gb1134, 0, none⟩ = some (.int .i64 t1127) ∧ w'.cell? ⟨gb1134, 1, none⟩ = some (.slice Ao26 t1128.length co26) ∧ w'.cell? ⟨gb1134, 2, none⟩ = some (.slice Ao27 t1131.length co27) ∧ w'.cell? ⟨gb1114, 0, none⟩ = some (.int .i64 a0_0) ∧ w'.cell? ⟨gb1114, 1, none⟩ = some (.slice A0_1 l0_1.length c0_1) ∧ w'.cell? ⟨gb1114, 2, none⟩ = some (.slice A0_2 l0_2.length c0_2)) (ds := []) #[false, false, false, false, false] (by kernel_rfl) rfl rfl ⟨(blk_cell BK1134.out 0).trans rfl, (blk_cell BK1134.out 1).trans rfl, (blk_cell BK1134.out 2).trans rfl, (blk_cell BK1114.out 0).trans rfl, (blk_cell BK1114.out 1).trans rfl, (blk_cell BK1114.out 2).trans rfl⟩ (fun hHeld => ?_)
      generalize wc.drew = w41 at HO_6 HO_9 HO_1135001 HO_1135002 BK1114 BK1134 HB hHeld ⊢
      refine Zt6 0 (some 45) hHeld (h := ?_)
      refine Zt6 1 (some 46) hHeld (h := ?_)
      refine one_ (i := 2) (N := some 47) #[true, true, true, false, false] rfl rfl (by kernel_rfl) (by decide) (fun K hK => ?_)
      refine goes_ Try.func16 (by kernel_rfl) rfl #[.agg #[.int .i64 a0_0, .slice A0_1 l0_1.length c0_1, .slice A0_2 l0_2.length c0_2]] (by rfl) rfl rfl ZA ?_
      with_reducible refine (laws_toJacobi.calls kj11 a0_0 _ _ l0_1 _ _ l0_2 t1140 t1141 t1144 _ ?side1 ?side2 ?side3 ?side4 A36.out).mono ?_
      (case side1 => exact ZC HR0_1)
      (case side2 => exact HC0_1.out)
      (case side3 => exact ZC HR0_2)
      (case side4 => exact HC0_2.out)
      rintro e w42 ⟨v1142, v1145, rfl, ho0, ho1, hb⟩
      refine ⟨_, rfl, ?_⟩
      have n0_ := Aside0.mk (Kd.R_mono (Kd.R_told (Kd.R_told (Kd.R_old (ZR HO_6) hb) (Kd.R_base ho0)) (Kd.R_base ho1)) (fun _ h_ => h_.1))
      have n1_ := Aside0.mk (Kd.R_mono (Kd.R_told (Kd.R_told (Kd.R_old (ZR HO_9) hb) (Kd.R_base ho0)) (Kd.R_base ho1)) (fun _ h_ => h_.1))
      have n2_ := Aside0.mk (Kd.R_mono (Kd.R_told (Kd.R_told (Kd.R_old (ZR HO_1135001) hb) (Kd.R_base ho0)) (Kd.R_base ho1)) (fun _ h_ => h_.1))
      have n3_ := Aside0.mk (Kd.R_mono (Kd.R_told (Kd.R_told (Kd.R_old (ZR HO_1135002) hb) (Kd.R_base ho0)) (Kd.R_base ho1)) (fun _ h_ => h_.1))
      have n4_ := Aside0.mk (Kd.R_lower (Kd.R_new' (Kd.R_new' (Kd.R_new' (Kd.R_new' ho0 (Kd.R_lt (ZR HO_6))) (Kd.R_lt (ZR HO_9))) (Kd.R_lt (ZR HO_1135001))) (Kd.R_lt (ZR HO_1135002))) (below_size ZB))
      have n5_ := Aside0.mk (Kd.R_lower (Kd.R_new' (Kd.R_new' (Kd.R_new' (Kd.R_new' ho1 (Kd.R_lt (ZR HO_6))) (Kd.R_lt (ZR HO_9))) (Kd.R_lt (ZR HO_1135001))) (Kd.R_lt (ZR HO_1135002))) (below_size ZB))
      have n6_ := ZL BK1114 hb
      have n7_ := ZL BK1134 hb
      have n8_ := Aside0.mk (below_step ZB hb)
      clear HO_6
      clear HO_9
      clear HO_1135001
      clear HO_1135002
      clear BK1114
      clear BK1134
      clear HB
      have HO_6 := n0_
      have HO_9 := n1_
      have HO_1135001 := n2_
      have HO_1135002 := n3_
      have HO1143 := n4_
      have HO1146 := n5_
      have BK1114 := n6_
      have BK1134 := n7_
      have HB := n8_
      clear n0_ n1_ n2_ n3_ n4_ n5_ n6_ n7_ n8_
      (try clear hb)
      (try clear hb2)
      (try clear hk)
      (try clear hi)
      (try clear ho0)
      (try clear ho1)
      obtain ⟨Ao43, co43, eo43⟩ := Kd.R_slice HO1143.out
      (first | subst eo43 | (injection eo43 with f1_ f2_ f3_; have f4_ := f1_.symm; have f5_ := f3_.symm; clear f1_ f2_ f3_; subst f4_; subst f5_))
      obtain ⟨Ao44, co44, eo44⟩ := Kd.R_slice HO1146.out
      (first | subst eo44 | (injection eo44 with f1_ f2_ f3_; have f4_ := f1_.symm; have f5_ := f3_.symm; clear f1_ f2_ f3_; subst f4_; subst f5_))
      refine hK.out _ _ ⟨(blk_cell BK1134.out 0).trans rfl, (blk_cell BK1134.out 1).trans rfl, (blk_cell BK1134.out 2).trans rfl, (blk_cell BK1114.out 0).trans rfl, (blk_cell BK1114.out 1).trans rfl, (blk_cell BK1114.out 2).trans rfl⟩ (fun hHeld => ?_)
      clear hK K
      refine norm_ (a' := ?_) ?_ ?_
      rotate_left
      ·show Act.put _ (some 47) _ = _
       simp only [Act.put, List.setIfInBounds_toArray, List.set_cons_zero, List.set_cons_succ, i64_w, i32_w]
       rfl
      refine one_ (i := 3) (N := some 48) #[true, true, true, true, false] rfl rfl (by kernel_rfl) (by decide) (fun K hK => ?_)
      refine goes_ Try.func19 (by kernel_rfl) rfl #[.agg #[.int .i64 t1127, .slice Ao26 t1128.length co26, .slice Ao27 t1131.length co27], .agg #[.int .i64 t1140, .slice Ao43 t1141.length co43, .slice Ao44 t1144.length co44]] (by rfl) rfl rfl ZA ?_
      with_reducible refine (laws_eqJacobi.calls kj11 t1127 _ _ t1128 _ _ t1131 t1140 _ _ t1141 _ _ t1144 true _ ?side1 ?side2 ?side3 ?side4 ?side5 ?side6 ?side7 ?side8 A37.out).mono ?_
      (case side1 => repeat (first | exact (Kd.R_reads' HO_1135001.out).2.2 | (with_reducible refine Kd.C_alloc ?_ _) | (with_reducible refine Kd.C_drewN ?_ _) | (with_reducible refine Kd.C_drew ?_)))
      (case side2 => exact (Kd.R_reads' HO_1135001.out).2.1)
      (case side3 => repeat (first | exact (Kd.R_reads' HO_1135002.out).2.2 | (with_reducible refine Kd.C_alloc ?_ _) | (with_reducible refine Kd.C_drewN ?_ _) | (with_reducible refine Kd.C_drew ?_)))
      (case side4 => exact (Kd.R_reads' HO_1135002.out).2.1)
      (case side5 => repeat (first | exact (Kd.R_reads' HO1143.out).2.2 | (with_reducible refine Kd.C_alloc ?_ _) | (with_reducible refine Kd.C_drewN ?_ _) | (with_reducible refine Kd.C_drew ?_)))
      (case side6 => exact (Kd.R_reads' HO1143.out).2.1)
      (case side7 => repeat (first | exact (Kd.R_reads' HO1146.out).2.2 | (with_reducible refine Kd.C_alloc ?_ _) | (with_reducible refine Kd.C_drewN ?_ _) | (with_reducible refine Kd.C_drew ?_)))
      (case side8 => exact (Kd.R_reads' HO1146.out).2.1)
      rintro e w45 ⟨rfl, hb⟩
      refine ⟨_, rfl, ?_⟩
      have n0_ := Aside0.mk (Kd.R_below (ZR HO_6) hb)
      have n1_ := Aside0.mk (Kd.R_below (ZR HO_9) hb)
      have n2_ := Aside0.mk (Kd.R_below (ZR HO_1135001) hb)
      have n3_ := Aside0.mk (Kd.R_below (ZR HO_1135002) hb)
      have n4_ := Aside0.mk (Kd.R_below (ZR HO1143) hb)
      have n5_ := Aside0.mk (Kd.R_below (ZR HO1146) hb)
      have n6_ := ZL BK1114 hb
      have n7_ := ZL BK1134 hb
      have n8_ := Aside0.mk (below_step ZB hb)
      clear HO_6
      clear HO_9
      clear HO_1135001
      clear HO_1135002
      clear HO1143
      clear HO1146
      clear BK1114
      clear BK1134
      clear HB
      have HO_6 := n0_
      have HO_9 := n1_
      have HO_1135001 := n2_
      have HO_1135002 := n3_
      have HO1143 := n4_
      have HO1146 := n5_
      have BK1114 := n6_
      have BK1134 := n7_
      have HB := n8_
      clear n0_ n1_ n2_ n3_ n4_ n5_ n6_ n7_ n8_
      (try clear hb)
      (try clear hb2)
      (try clear hk)
      (try clear hi)
      refine hK.out _ _ ⟨(blk_cell BK1134.out 0).trans rfl, (blk_cell BK1134.out 1).trans rfl, (blk_cell BK1134.out 2).trans rfl, (blk_cell BK1114.out 0).trans rfl, (blk_cell BK1114.out 1).trans rfl, (blk_cell BK1114.out 2).trans rfl⟩ (fun hHeld => ?_)
      clear hK K
      refine norm_ (a' := ?_) ?_ ?_
      rotate_left
      ·show Act.put _ (some 48) _ = _
       simp only [Act.put, List.setIfInBounds_toArray, List.set_cons_zero, List.set_cons_succ, i64_w, i32_w]
       rfl
      refine Zp 4 (some 49) (h := ?_)
      refine done_ (by kernel_rfl) ?_
      have hnb46 := NB1134_1114.out
      have hnc46 := NB1114_1134.out
      obtain ⟨hcz47_0, hcz47_1, hcz47_2, hfz47_0, hfz47_1, hfz47_2⟩ := ZD3 BK1134
      go_upto_region 14 with (first | ((with_reducible refine gate_callee (f := 20) rfl ?_); refine goesL_ (some 52) rfl rfl Try.func20 (by kernel_rfl) rfl #[.agg #[.int .i64 t1127, .slice Ao26 t1128.length co26, .slice Ao27 t1131.length co27], .int .i64 1] rfl ZA ?_; (with_reducible refine (laws_markJacobi.calls kj11 t1127 (fun k_ => some k_ = (.slice Ao26 t1128.length co26 : Value).ownBlock) (.slice Ao26 t1128.length co26) t1128 (fun k_ => some k_ = (.slice Ao27 t1131.length co27 : Value).ownBlock) (.slice Ao27 t1131.length co27) t1131 1 t1148 t1149 t1150 w _ ?side1 ?side2 ?side3 ?side4 ?side5 A39.out).mono ?_); (case side1 => repeat (first | (with_reducible first | exact HB.out | apply below_alloc | apply pw_below_drewN | apply below_drew1 | refine below_set ?_ GE1114.out | refine below_set ?_ GE1134.out) | exact HB.out)); (case side2 => exact Kd.R_tight rfl HO_1135001.out); (case side3 => exact fun k_ e_ => (HO_1135001.out.1 k_ e_.symm).1.1.2.2); (case side4 => exact Kd.R_tight rfl HO_1135002.out); (case side5 => exact fun k_ e_ => (HO_1135002.out.1 k_ e_.symm).1.1.2.2); rintro e w48 ⟨rfl, hy0, hy1, hb, hkp⟩; refine ⟨_, rfl, ?_⟩; have n0_ := Aside0.mk (Kd.R_mono (ok' := fun k_ => some k_ ≠ (v1136 : Value).ownBlock ∧ some k_ ≠ (.slice Ao26 t1128.length co26 : Value).ownBlock ∧ some k_ ≠ (.slice Ao27 t1131.length co27 : Value).ownBlock ∧ some k_ ≠ (.slice Ao43 t1141.length co43 : Value).ownBlock ∧ some k_ ≠ (.slice Ao44 t1144.length co44 : Value).ownBlock) (Kd.R_keptB (HO_6.out) hkp (fun k_ hk_ hs_ => Or.elim hs_ (fun e_ => (hk_.1.1.2.1) e_) (fun e_ => (hk_.1.1.2.2) e_))) (fun k_ hk_ => ⟨hk_.1.1.1.1, hk_.1.1.1.2.1, hk_.1.1.1.2.2, hk_.1.1.2, hk_.1.2⟩)); have n1_ := Aside0.mk (Kd.R_mono (ok' := fun k_ => some k_ ≠ (v1124 : Value).ownBlock ∧ some k_ ≠ (.slice Ao26 t1128.length co26 : Value).ownBlock ∧ some k_ ≠ (.slice Ao27 t1131.length co27 : Value).ownBlock ∧ some k_ ≠ (.slice Ao43 t1141.length co43 : Value).ownBlock ∧ some k_ ≠ (.slice Ao44 t1144.length co44 : Value).ownBlock) (Kd.R_keptB (HO_9.out) hkp (fun k_ hk_ hs_ => Or.elim hs_ (fun e_ => (hk_.1.1.2.1) e_) (fun e_ => (hk_.1.1.2.2) e_))) (fun k_ hk_ => ⟨hk_.1.1.1.1, hk_.1.1.1.2.1, hk_.1.1.1.2.2, hk_.1.1.2, hk_.1.2⟩)); have n2_ := Aside0.mk (Kd.R_reok rfl hy0 (fun k_ e_ => HO_1135001.out.1 k_ e_)); have n3_ := Aside0.mk (Kd.R_reok rfl hy1 (fun k_ e_ => HO_1135002.out.1 k_ e_)); have n4_ := Aside0.mk (blk_kept (ZK BK1114) hkp (fun hs_ => Or.elim hs_ (fun e_ => (fun e_ => (Kd.R_ne HO_1135001.out BK1114.out (by decide)) e_) e_) (fun e_ => (fun e_ => (Kd.R_ne HO_1135002.out BK1114.out (by decide)) e_) e_))); have n5_ := Aside0.mk (blk_kept (ZK BK1134) hkp (fun hs_ => Or.elim hs_ (fun e_ => (fun e_ => (Kd.R_ne HO_1135001.out BK1134.out (by decide)) e_) e_) (fun e_ => (fun e_ => (Kd.R_ne HO_1135002.out BK1134.out (by decide)) e_) e_))); have n6_ := Aside0.mk (Kd.R_mono (ok' := fun k_ => some k_ ≠ (v1124 : Value).ownBlock ∧ some k_ ≠ (v1136 : Value).ownBlock ∧ some k_ ≠ (.slice Ao26 t1128.length co26 : Value).ownBlock ∧ some k_ ≠ (.slice Ao27 t1131.length co27 : Value).ownBlock ∧ some k_ ≠ (.slice Ao44 t1144.length co44 : Value).ownBlock) (Kd.R_keptB (HO1143.out) hkp (fun k_ hk_ hs_ => Or.elim hs_ (fun e_ => (hk_.1.2) e_) (fun e_ => (hk_.2) e_))) (fun k_ hk_ => ⟨hk_.1.1.1.1.2, hk_.1.1.1.2, hk_.1.1.2, hk_.1.2, hk_.1.1.1.1.1⟩)); have n7_ := Aside0.mk (Kd.R_mono (ok' := fun k_ => some k_ ≠ (v1124 : Value).ownBlock ∧ some k_ ≠ (v1136 : Value).ownBlock ∧ some k_ ≠ (.slice Ao26 t1128.length co26 : Value).ownBlock ∧ some k_ ≠ (.slice Ao27 t1131.length co27 : Value).ownBlock ∧ some k_ ≠ (.slice Ao43 t1141.length co43 : Value).ownBlock) (Kd.R_keptB (HO1146.out) hkp (fun k_ hk_ hs_ => Or.elim hs_ (fun e_ => (hk_.1.2) e_) (fun e_ => (hk_.2) e_))) (fun k_ hk_ => ⟨hk_.1.1.1.1.2, hk_.1.1.1.2, hk_.1.1.2, hk_.1.2, hk_.1.1.1.1.1⟩)); have n8_ := Aside0.mk (hb); clear HO_6; clear HO_9; clear HO_1135001; clear HO_1135002; clear BK1114; clear BK1134; clear HO1143; clear HO1146; clear HB; have HO_6 := n0_; have HO_9 := n1_; have HO_1135001 := n2_; have HO_1135002 := n3_; have BK1114 := n4_; have BK1134 := n5_; have HO1143 := n6_; have HO1146 := n7_; have HB := n8_; clear n0_ n1_ n2_ n3_ n4_ n5_ n6_ n7_ n8_; (try clear hb); (try clear hkp); (try clear hy0); (try clear hy1)))
      (try simp only [Act.put, List.setIfInBounds_toArray, List.set_cons_zero, List.set_cons_succ])
      go_cut [65] (fun v65 wc => ∃ (kq : Nat) (x65_39 : Bool), v65 = .bool x65_39 ∧ Aside0 (laws_FnExactExpandDerivative.j1 kq a1 t1123 t1126 t1135 x65_39 a0_0 l0_1 l0_2 = some r) ∧ Aside0 (kq ≤ kj11) ∧ Aside0 (Kd.R (Kd.int .i64) 2 wc w.heap.size (fun k_ => some k_ ≠ (v1136 : Value).ownBlock ∧ some k_ ≠ ((.slice Ao26 t1128.length co26) : Value).ownBlock ∧ some k_ ≠ ((.slice Ao27 t1131.length co27) : Value).ownBlock) v1124 t1123) ∧ Aside0 (Kd.R (Kd.int .i64) 2 wc w.heap.size (fun k_ => some k_ ≠ (v1124 : Value).ownBlock ∧ some k_ ≠ ((.slice Ao26 t1128.length co26) : Value).ownBlock ∧ some k_ ≠ ((.slice Ao27 t1131.length co27) : Value).ownBlock) v1136 t1135) ∧ Aside0 (Kd.R (Kd.int .i64) 2 wc w.heap.size (fun k_ => some k_ ≠ (v1124 : Value).ownBlock ∧ some k_ ≠ (v1136 : Value).ownBlock ∧ some k_ ≠ ((.slice Ao27 t1131.length co27) : Value).ownBlock) (.slice Ao26 t1128.length co26) t1149) ∧ Aside0 (Kd.R (Kd.int .i64) 2 wc w.heap.size (fun k_ => some k_ ≠ (v1124 : Value).ownBlock ∧ some k_ ≠ (v1136 : Value).ownBlock ∧ some k_ ≠ ((.slice Ao26 t1128.length co26) : Value).ownBlock) (.slice Ao27 t1131.length co27) t1150) ∧ Aside0 (wc.heap[gb1114]? = some (.cells #[.int .i64 a0_0, (.slice A0_1 l0_1.length c0_1), (.slice A0_2 l0_2.length c0_2)] 24 (0, 0))) ∧ Aside0 (wc.heap[gb1134]? = some (.cells #[.int .i64 t1127, (.slice Ao26 t1128.length co26), (.slice Ao27 t1131.length co27)] 29 (0, 0))) ∧ Aside0 (Below w.heap.size w wc))
      case first =>
       have H := HC40.out
       clear HC40
       by_cases c49 : t1148 < 0
       ·rw [if_pos c49] at H
        have c49b0 : decide (t1148 < 0) = true := decide_eq_true c49
        clear c49
        (first | rw [c49b0] | (simp only [i64_w, i32_w]; rw [c49b0]) | skip)
        have H' := Aside0.mk H
        clear H
        go_wp2
        go_meet
        case rel => exact ⟨_, (true), (by first | rfl | (simp; done) | (simp [*]; done)), H', ⟨by have := HJ11.out; first | omega | exact Nat.le_refl _⟩, ⟨by refine ZQ ?_; exact Kd.R_mono HO_6.out (fun _ hk => (And.intro (hk.1) ((And.intro (hk.2.1) (hk.2.2.1)))))⟩, ⟨by refine ZQ ?_; exact Kd.R_mono HO_9.out (fun _ hk => (And.intro (hk.1) ((And.intro (hk.2.1) (hk.2.2.1)))))⟩, ⟨by refine ZQ ?_; exact Kd.R_mono HO_1135001.out (fun _ hk => (And.intro (hk.1.1.1) ((And.intro (hk.1.1.2.1) (hk.1.1.2.2)))))⟩, ⟨by refine ZQ ?_; exact Kd.R_mono HO_1135002.out (fun _ hk => (And.intro (hk.1.1.1) ((And.intro (hk.1.1.2.1) (hk.1.1.2.2)))))⟩, ⟨ZK BK1114⟩, ⟨ZK BK1134⟩, ⟨ZB⟩⟩
       ·rw [if_neg c49] at H
        have c49b0 : decide (t1148 < 0) = false := decide_eq_false c49
        clear c49
        (first | rw [c49b0] | (simp only [i64_w, i32_w]; rw [c49b0]) | skip)
        replace H := Option.bind_eq_some_iff.mp H
        obtain ⟨t1151, A500, H⟩ := H
        replace H : (if t1151 = true then (laws_FnExactExpandDerivative.j1 kj11 a1 t1123 t1126 t1135 (t1138 != t1126) a0_0 l0_1 l0_2) else (laws_FnExactExpandDerivative.j1 kj11 a1 t1123 t1126 t1135 true a0_0 l0_1 l0_2)) = some r := H
        have A50 := Aside0.mk A500
        clear A500
        by_cases c51 : t1151 = true
        ·subst c51
         have H1 : (laws_FnExactExpandDerivative.j1 kj11 a1 t1123 t1126 t1135 (t1138 != t1126) a0_0 l0_1 l0_2) = some r := by rw [if_pos rfl] at H; exact H
         clear H
         have H := H1
         clear H1
         have H' := Aside0.mk H
         clear H
         obtain ⟨Ao52, co52, eo52⟩ := Kd.R_slice HO_9.out
         subst eo52
         obtain ⟨Ao53, co53, eo53⟩ := Kd.R_slice HO_6.out
         subst eo53
         go_wp2_with (first | (go_at_call 29; (with_reducible refine (laws_eqInt64S.calls kj11 _ _ t1135 _ _ t1123 true _ ?side1 ?side2 ?side3 ?side4 A50.out).mono ?_); (case side1 => repeat (first | exact (Kd.R_reads' HO_9.out).2.2 | (with_reducible refine Kd.C_alloc ?_ _) | (with_reducible refine Kd.C_drewN ?_ _) | (with_reducible refine Kd.C_drew ?_))); (case side2 => exact (Kd.R_reads' HO_9.out).2.1); (case side3 => repeat (first | exact (Kd.R_reads' HO_6.out).2.2 | (with_reducible refine Kd.C_alloc ?_ _) | (with_reducible refine Kd.C_drewN ?_ _) | (with_reducible refine Kd.C_drew ?_))); (case side4 => exact (Kd.R_reads' HO_6.out).2.1); rintro e w' ⟨rfl, ⟨nd, rfl⟩⟩))
         go_meet
         case rel => exact ⟨_, ((t1138 != t1126)), (by first | rfl | (simp; done) | (simp [*]; done)), H', ⟨by have := HJ11.out; first | omega | exact Nat.le_refl _⟩, ⟨by refine ZQ ?_; exact Kd.R_mono HO_6.out (fun _ hk => (And.intro (hk.1) ((And.intro (hk.2.1) (hk.2.2.1)))))⟩, ⟨by refine ZQ ?_; exact Kd.R_mono HO_9.out (fun _ hk => (And.intro (hk.1) ((And.intro (hk.2.1) (hk.2.2.1)))))⟩, ⟨by refine ZQ ?_; exact Kd.R_mono HO_1135001.out (fun _ hk => (And.intro (hk.1.1.1) ((And.intro (hk.1.1.2.1) (hk.1.1.2.2)))))⟩, ⟨by refine ZQ ?_; exact Kd.R_mono HO_1135002.out (fun _ hk => (And.intro (hk.1.1.1) ((And.intro (hk.1.1.2.1) (hk.1.1.2.2)))))⟩, ⟨ZK BK1114⟩, ⟨ZK BK1134⟩, ⟨ZB⟩⟩
        ·replace c51 := Bool.eq_false_iff.mpr c51
         subst c51
         have H1 : (laws_FnExactExpandDerivative.j1 kj11 a1 t1123 t1126 t1135 true a0_0 l0_1 l0_2) = some r := by rw [if_neg (show ¬ (false = true) by decide)] at H; exact H
         clear H
         have H := H1
         clear H1
         have H' := Aside0.mk H
         clear H
         obtain ⟨Ao54, co54, eo54⟩ := Kd.R_slice HO_9.out
         subst eo54
         obtain ⟨Ao55, co55, eo55⟩ := Kd.R_slice HO_6.out
         subst eo55
         go_wp2_with (first | (go_at_call 29; (with_reducible refine (laws_eqInt64S.calls kj11 _ _ t1135 _ _ t1123 false _ ?side1 ?side2 ?side3 ?side4 A50.out).mono ?_); (case side1 => repeat (first | exact (Kd.R_reads' HO_9.out).2.2 | (with_reducible refine Kd.C_alloc ?_ _) | (with_reducible refine Kd.C_drewN ?_ _) | (with_reducible refine Kd.C_drew ?_))); (case side2 => exact (Kd.R_reads' HO_9.out).2.1); (case side3 => repeat (first | exact (Kd.R_reads' HO_6.out).2.2 | (with_reducible refine Kd.C_alloc ?_ _) | (with_reducible refine Kd.C_drewN ?_ _) | (with_reducible refine Kd.C_drew ?_))); (case side4 => exact (Kd.R_reads' HO_6.out).2.1); rintro e w' ⟨rfl, ⟨nd, rfl⟩⟩))
         go_meet
         case rel => exact ⟨_, (true), (by first | rfl | (simp; done) | (simp [*]; done)), H', ⟨by have := HJ11.out; first | omega | exact Nat.le_refl _⟩, ⟨by refine ZQ ?_; exact Kd.R_mono HO_6.out (fun _ hk => (And.intro (hk.1) ((And.intro (hk.2.1) (hk.2.2.1)))))⟩, ⟨by refine ZQ ?_; exact Kd.R_mono HO_9.out (fun _ hk => (And.intro (hk.1) ((And.intro (hk.2.1) (hk.2.2.1)))))⟩, ⟨by refine ZQ ?_; exact Kd.R_mono HO_1135001.out (fun _ hk => (And.intro (hk.1.1.1) ((And.intro (hk.1.1.2.1) (hk.1.1.2.2)))))⟩, ⟨by refine ZQ ?_; exact Kd.R_mono HO_1135002.out (fun _ hk => (And.intro (hk.1.1.1) ((And.intro (hk.1.1.2.1) (hk.1.1.2.2)))))⟩, ⟨ZK BK1114⟩, ⟨ZK BK1134⟩, ⟨ZB⟩⟩
      case rest =>
       clear HC40
       try clear c1
       try clear c2
       try clear p2
       try clear c3
       try clear c4
       try clear c4b0
       try clear c5
       try clear c11
       try clear c14
       try clear c16
       try clear c19
       try clear c20
       try clear c24
       try clear c29
       try clear c30
       try clear c35
       try clear c38
       try clear c42
       try clear c43
       try clear c46
       try clear c49
       try clear c49b0
       try clear c51
       try clear hcz14_0
       try clear hcz14_1
       try clear hcz14_2
       try clear hcz16_0
       try clear hcz16_1
       try clear hcz16_2
       try clear hcz21_0
       try clear hcz21_1
       try clear hcz21_2
       try clear hcz25_0
       try clear hcz25_1
       try clear hcz25_2
       try clear hcz47_0
       try clear hcz47_1
       try clear hcz47_2
       try clear hcz6_0
       try clear hcz6_1
       try clear hcz6_2
       try clear hfz14_0
       try clear hfz14_1
       try clear hfz14_2
       try clear hfz16_0
       try clear hfz16_1
       try clear hfz16_2
       try clear hfz21_0
       try clear hfz21_1
       try clear hfz21_2
       try clear hfz25_0
       try clear hfz25_1
       try clear hfz25_2
       try clear hfz47_0
       try clear hfz47_1
       try clear hfz47_2
       try clear hfz6_0
       try clear hfz6_1
       try clear hfz6_2
       try clear p2
       obtain ⟨kq, x65_39, rfl, HA, HJ39, HO_6, HO_9, HO_1135001, HO_1135002, BK1114, BK1134, HB⟩ := hcut
       have hl1135001_39 := (Kd.R_reads' HO_1135001.out).1
       rw [hl1135001_39] at HO_1135001
       (try simp only [hl1135001_39])
       (try simp only [hl1135001_39] at BK1114)
       (try simp only [hl1135001_39] at BK1134)
       (try simp only [hl1135001_39] at HO_6)
       (try simp only [hl1135001_39] at HO_9)
       (try simp only [hl1135001_39] at HO_1135002)
       have hl1135002_39 := (Kd.R_reads' HO_1135002.out).1
       rw [hl1135002_39] at HO_1135002
       (try simp only [hl1135002_39])
       (try simp only [hl1135002_39] at BK1114)
       (try simp only [hl1135002_39] at BK1134)
       (try simp only [hl1135002_39] at HO_6)
       (try simp only [hl1135002_39] at HO_9)
       (try simp only [hl1135002_39] at HO_1135001)
       cases kq with
       | zero => exact absurd HA.out (by simp [laws_FnExactExpandDerivative.j1])
       | succ kj39 =>
        have H := HA.out
        clear HA
        simp only [laws_FnExactExpandDerivative.j1] at H
        by_cases c56 : x65_39 = true
        ·subst c56
         have H1 : (some false) = some r := by rw [if_pos rfl] at H; exact H
         clear H
         have H := H1
         clear H1
         exact absurd (H.trans (congrArg some hT.out)) (by simp)
        ·replace c56 := Bool.eq_false_iff.mpr c56
         subst c56
         have H1 : ((laws_markInt64S.f kj39 t1135 1).bind fun bt1152 => ((laws_heldInt64S.f kj39 bt1152.2 1).bind fun t1154 => (if t1154 < 0 then (some false) else (if t1154 = bt1152.1 then ((laws_toJacobi.f kj39 a0_0 l0_1 l0_2).bind fun bt1155 => ((impl_ExpandDerivative.f kj39 bt1155.1 bt1155.2.1 bt1155.2.2 a1).bind fun bt1162 => ((laws_eqInt64S.f kj39 bt1162.1 t1123).bind fun t1166 => (if t1166 = true then (laws_FnExactExpandDerivative.j2 kj39 bt1152.2 bt1152.1 (bt1162.2 != t1126)) else (laws_FnExactExpandDerivative.j2 kj39 bt1152.2 bt1152.1 true))))) else (some false))))) = some r := by rw [if_neg (show ¬ (false = true) by decide)] at H; exact H
         clear H
         have H := H1
         clear H1
         replace H := Option.bind_eq_some_iff.mp H
         obtain ⟨⟨t1152, t1153⟩, A570, H⟩ := H
         replace H : ((laws_heldInt64S.f kj39 t1153 1).bind fun t1154 => (if t1154 < 0 then (some false) else (if t1154 = t1152 then ((laws_toJacobi.f kj39 a0_0 l0_1 l0_2).bind fun bt1155 => ((impl_ExpandDerivative.f kj39 bt1155.1 bt1155.2.1 bt1155.2.2 a1).bind fun bt1162 => ((laws_eqInt64S.f kj39 bt1162.1 t1123).bind fun t1166 => (if t1166 = true then (laws_FnExactExpandDerivative.j2 kj39 t1153 t1152 (bt1162.2 != t1126)) else (laws_FnExactExpandDerivative.j2 kj39 t1153 t1152 true))))) else (some false)))) = some r := H
         have A57 := Aside0.mk A570
         clear A570
         replace H := Option.bind_eq_some_iff.mp H
         obtain ⟨t1154, A580, H⟩ := H
         replace H : (if t1154 < 0 then (some false) else (if t1154 = t1152 then ((laws_toJacobi.f kj39 a0_0 l0_1 l0_2).bind fun bt1155 => ((impl_ExpandDerivative.f kj39 bt1155.1 bt1155.2.1 bt1155.2.2 a1).bind fun bt1162 => ((laws_eqInt64S.f kj39 bt1162.1 t1123).bind fun t1166 => (if t1166 = true then (laws_FnExactExpandDerivative.j2 kj39 t1153 t1152 (bt1162.2 != t1126)) else (laws_FnExactExpandDerivative.j2 kj39 t1153 t1152 true))))) else (some false))) = some r := H
         have A58 := Aside0.mk A580
         clear A580
         by_cases c59 : t1154 < 0
         ·rw [if_pos c59] at H
          have c59b0 : decide (t1154 < 0) = true := decide_eq_true c59
          clear c59
          exact absurd (H.trans (congrArg some hT.out)) (by simp)
         ·rw [if_neg c59] at H
          have c59b0 : decide (t1154 < 0) = false := decide_eq_false c59
          clear c59
          by_cases c60 : t1154 = t1152
          ·rw [if_pos c60] at H
           have c60b0 : (t1154 == t1152) = true := beq_iff_eq.mpr c60
           have c60b1 : (t1154 != t1152) = false := bne_eq_false_iff_eq.mpr c60
           clear c60
           replace H := Option.bind_eq_some_iff.mp H
           obtain ⟨⟨t1155, t1156, t1159⟩, A610, H⟩ := H
           replace H : ((impl_ExpandDerivative.f kj39 t1155 t1156 t1159 a1).bind fun bt1162 => ((laws_eqInt64S.f kj39 bt1162.1 t1123).bind fun t1166 => (if t1166 = true then (laws_FnExactExpandDerivative.j2 kj39 t1153 t1152 (bt1162.2 != t1126)) else (laws_FnExactExpandDerivative.j2 kj39 t1153 t1152 true)))) = some r := H
           have A61 := Aside0.mk A610
           clear A610
           replace H := Option.bind_eq_some_iff.mp H
           obtain ⟨⟨t1162, t1165⟩, A620, H⟩ := H
           replace H : ((laws_eqInt64S.f kj39 t1162 t1123).bind fun t1166 => (if t1166 = true then (laws_FnExactExpandDerivative.j2 kj39 t1153 t1152 (t1165 != t1126)) else (laws_FnExactExpandDerivative.j2 kj39 t1153 t1152 true))) = some r := H
           have A62 := Aside0.mk A620
           clear A620
           have HC63 := Aside0.mk H
           clear H
           obtain ⟨Ao64, co64, eo64⟩ := Kd.R_slice HO_9.out
           subst eo64
           go_upto_region 25 with (first | ((with_reducible refine gate_callee (f := 30) rfl ?_); refine goesL_ (some 68) rfl rfl Try.func30 (by kernel_rfl) rfl #[.slice Ao64 t1135.length co64, .int .i64 1] rfl ZA ?_; (with_reducible refine (laws_markInt64S.calls kj39 (fun k_ => some k_ = (.slice Ao64 t1135.length co64 : Value).ownBlock) (.slice Ao64 t1135.length co64) t1135 1 t1152 t1153 w _ ?side1 ?side2 A57.out).mono ?_); (case side1 => repeat (first | (with_reducible first | exact HB.out | apply below_alloc | apply pw_below_drewN | apply below_drew1 | refine below_set ?_ GE1114.out | refine below_set ?_ GE1134.out) | exact HB.out)); (case side2 => exact Kd.R_tight rfl HO_9.out); rintro e w65 ⟨rfl, hy0, hb, hkp⟩; refine ⟨_, rfl, ?_⟩; have n0_ := Aside0.mk (Kd.R_mono (ok' := fun k_ => some k_ ≠ (.slice Ao64 t1135.length co64 : Value).ownBlock ∧ some k_ ≠ (.slice Ao26 t1149.length co26 : Value).ownBlock ∧ some k_ ≠ (.slice Ao27 t1150.length co27 : Value).ownBlock) (Kd.R_keptB (HO_6.out) hkp (fun k_ hk_ hs_ => (hk_.1) hs_)) (fun k_ hk_ => ⟨hk_.1.1, hk_.1.2.1, hk_.1.2.2⟩)); have n1_ := Aside0.mk (Kd.R_reok rfl hy0 (fun k_ e_ => HO_9.out.1 k_ e_)); have n2_ := Aside0.mk (Kd.R_mono (ok' := fun k_ => some k_ ≠ (v1124 : Value).ownBlock ∧ some k_ ≠ (.slice Ao64 t1135.length co64 : Value).ownBlock ∧ some k_ ≠ (.slice Ao27 t1150.length co27 : Value).ownBlock) (Kd.R_keptB (HO_1135001.out) hkp (fun k_ hk_ hs_ => (hk_.2.1) hs_)) (fun k_ hk_ => ⟨hk_.1.1, hk_.1.2.1, hk_.1.2.2⟩)); have n3_ := Aside0.mk (Kd.R_mono (ok' := fun k_ => some k_ ≠ (v1124 : Value).ownBlock ∧ some k_ ≠ (.slice Ao64 t1135.length co64 : Value).ownBlock ∧ some k_ ≠ (.slice Ao26 t1149.length co26 : Value).ownBlock) (Kd.R_keptB (HO_1135002.out) hkp (fun k_ hk_ hs_ => (hk_.2.1) hs_)) (fun k_ hk_ => ⟨hk_.1.1, hk_.1.2.1, hk_.1.2.2⟩)); have n4_ := Aside0.mk (blk_kept (ZK BK1114) hkp (fun hs_ => (fun e_ => (Kd.R_ne HO_9.out BK1114.out (by decide)) e_) hs_)); have n5_ := Aside0.mk (blk_kept (ZK BK1134) hkp (fun hs_ => (fun e_ => (Kd.R_ne HO_9.out BK1134.out (by decide)) e_) hs_)); have n6_ := Aside0.mk (hb); clear HO_6; clear HO_9; clear HO_1135001; clear HO_1135002; clear BK1114; clear BK1134; clear HB; have HO_6 := n0_; have HO_9 := n1_; have HO_1135001 := n2_; have HO_1135002 := n3_; have BK1114 := n4_; have BK1134 := n5_; have HB := n6_; clear n0_ n1_ n2_ n3_ n4_ n5_ n6_; (try clear hb); (try clear hkp); (try clear hy0)) | ((with_reducible refine gate_callee (f := 31) rfl ?_); refine goesL_ (some 71) rfl rfl Try.func31 (by kernel_rfl) rfl #[.slice Ao64 t1153.length co64, .int .i64 1] rfl (by (try simp only [List.map_toArray, List.map_cons, List.map_nil]); first | done | (rw [show t1153.length = t1135.length from (Kd.R_reads' HO_9.out).1.symm] <;> rfl) | rfl | (simp only [List.length_drop, List.length_take]; rfl)) ?_; (with_reducible refine (laws_heldInt64S.calls kj39 _ _ t1153 1 t1154 _ ?side1 ?side2 A58.out).mono ?_); (case side1 => repeat (first | exact (Kd.R_reads' HO_9.out).2.2 | (with_reducible refine Kd.C_alloc ?_ _) | (with_reducible refine Kd.C_drewN ?_ _) | (with_reducible refine Kd.C_drew ?_))); (case side2 => rw [show t1153.length = t1135.length from (Kd.R_reads' HO_9.out).1.symm]; exact (Kd.R_reads' HO_9.out).2.1); rintro e w' ⟨rfl, ⟨nd, rfl⟩⟩; refine ⟨_, rfl, ?_⟩; have hnb66 := NB1114_1134.out; have hnc66 := NB1134_1114.out; obtain ⟨hcz67_0, hcz67_1, hcz67_2, hfz67_0, hfz67_1, hfz67_2⟩ := ZD3 BK1114) | ((with_reducible refine gate_callee (f := 16) rfl ?_); refine goesL_ (some 79) rfl rfl Try.func16 (by kernel_rfl) rfl #[.agg #[.int .i64 a0_0, .slice A0_1 l0_1.length c0_1, .slice A0_2 l0_2.length c0_2]] rfl ZA ?_; (with_reducible refine (laws_toJacobi.calls kj39 a0_0 _ _ l0_1 _ _ l0_2 t1155 t1156 t1159 _ ?side1 ?side2 ?side3 ?side4 A61.out).mono ?_); (case side1 => exact ZE HR0_1); (case side2 => exact HC0_1.out); (case side3 => exact ZE HR0_2); (case side4 => exact HC0_2.out); rintro e w68 ⟨v1157, v1160, rfl, ho0, ho1, hb⟩; refine ⟨_, rfl, ?_⟩; have n0_ := Aside0.mk (Kd.R_mono (Kd.R_told (Kd.R_told (Kd.R_old (ZR HO_6) hb) (Kd.R_base ho0)) (Kd.R_base ho1)) (fun _ h_ => h_.1)); have n1_ := Aside0.mk (Kd.R_mono (Kd.R_told (Kd.R_told (Kd.R_old (ZR HO_9) hb) (Kd.R_base ho0)) (Kd.R_base ho1)) (fun _ h_ => h_.1)); have n2_ := Aside0.mk (Kd.R_mono (Kd.R_told (Kd.R_told (Kd.R_old (ZR HO_1135001) hb) (Kd.R_base ho0)) (Kd.R_base ho1)) (fun _ h_ => h_.1)); have n3_ := Aside0.mk (Kd.R_mono (Kd.R_told (Kd.R_told (Kd.R_old (ZR HO_1135002) hb) (Kd.R_base ho0)) (Kd.R_base ho1)) (fun _ h_ => h_.1)); have n4_ := Aside0.mk (Kd.R_lower (Kd.R_new' (Kd.R_new' (Kd.R_new' (Kd.R_new' ho0 (Kd.R_lt (ZR HO_6))) (Kd.R_lt (ZR HO_9))) (Kd.R_lt (ZR HO_1135001))) (Kd.R_lt (ZR HO_1135002))) (below_size ZB)); have n5_ := Aside0.mk (Kd.R_lower (Kd.R_new' (Kd.R_new' (Kd.R_new' (Kd.R_new' ho1 (Kd.R_lt (ZR HO_6))) (Kd.R_lt (ZR HO_9))) (Kd.R_lt (ZR HO_1135001))) (Kd.R_lt (ZR HO_1135002))) (below_size ZB)); have n6_ := ZL BK1114 hb; have n7_ := ZL BK1134 hb; have n8_ := Aside0.mk (below_step ZB hb); clear HO_6; clear HO_9; clear HO_1135001; clear HO_1135002; clear BK1114; clear BK1134; clear HB; have HO_6 := n0_; have HO_9 := n1_; have HO_1135001 := n2_; have HO_1135002 := n3_; have HO1158 := n4_; have HO1161 := n5_; have BK1114 := n6_; have BK1134 := n7_; have HB := n8_; clear n0_ n1_ n2_ n3_ n4_ n5_ n6_ n7_ n8_; (try clear hb); (try clear hb2); (try clear hk); (try clear hi); (try clear ho0); (try clear ho1); obtain ⟨Ao69, co69, eo69⟩ := Kd.R_slice HO1158.out; subst eo69; obtain ⟨Ao70, co70, eo70⟩ := Kd.R_slice HO1161.out; subst eo70) | ((with_reducible refine gate_callee (f := 43) rfl ?_); refine goesL_ (some 81) rfl rfl Try.func43 (by kernel_rfl) rfl #[.agg #[.int .i64 t1155, .slice Ao69 t1156.length co69, .slice Ao70 t1159.length co70], .int .i64 a1] rfl ZA ?_; (with_reducible refine (impl_ExpandDerivative.calls kj39 t1155 _ _ t1156 _ _ t1159 a1 t1162 t1165 _ ?side1 ?side2 ?side3 ?side4 A62.out).mono ?_); (case side1 => repeat (first | exact (Kd.R_reads' HO1158.out).2.2 | (with_reducible refine Kd.C_alloc ?_ _) | (with_reducible refine Kd.C_drewN ?_ _) | (with_reducible refine Kd.C_drew ?_))); (case side2 => exact (Kd.R_reads' HO1158.out).2.1); (case side3 => repeat (first | exact (Kd.R_reads' HO1161.out).2.2 | (with_reducible refine Kd.C_alloc ?_ _) | (with_reducible refine Kd.C_drewN ?_ _) | (with_reducible refine Kd.C_drew ?_))); (case side4 => exact (Kd.R_reads' HO1161.out).2.1); rintro e w71 ⟨v1163, rfl, ho0, hb⟩; refine ⟨_, rfl, ?_⟩; have n0_ := Aside0.mk (Kd.R_elder' (ZR HO_6) (Kd.R_base ho0) hb); have n1_ := Aside0.mk (Kd.R_elder' (ZR HO_9) (Kd.R_base ho0) hb); have n2_ := Aside0.mk (Kd.R_elder' (ZR HO_1135001) (Kd.R_base ho0) hb); have n3_ := Aside0.mk (Kd.R_elder' (ZR HO_1135002) (Kd.R_base ho0) hb); have n4_ := Aside0.mk (Kd.R_elder' (ZR HO1158) (Kd.R_base ho0) hb); have n5_ := Aside0.mk (Kd.R_elder' (ZR HO1161) (Kd.R_base ho0) hb); have n6_ := Aside0.mk (Kd.R_lower (Kd.R_new' (Kd.R_new' (Kd.R_new' (Kd.R_new' (Kd.R_new' (Kd.R_new' ho0 (Kd.R_lt (ZR HO_6))) (Kd.R_lt (ZR HO_9))) (Kd.R_lt (ZR HO_1135001))) (Kd.R_lt (ZR HO_1135002))) (Kd.R_lt (ZR HO1158))) (Kd.R_lt (ZR HO1161))) (below_size ZB)); have n7_ := ZL BK1114 hb; have n8_ := ZL BK1134 hb; have n9_ := Aside0.mk (below_step ZB hb); clear HO_6; clear HO_9; clear HO_1135001; clear HO_1135002; clear HO1158; clear HO1161; clear BK1114; clear BK1134; clear HB; have HO_6 := n0_; have HO_9 := n1_; have HO_1135001 := n2_; have HO_1135002 := n3_; have HO1158 := n4_; have HO1161 := n5_; have HO1164 := n6_; have BK1114 := n7_; have BK1134 := n8_; have HB := n9_; clear n0_ n1_ n2_ n3_ n4_ n5_ n6_ n7_ n8_ n9_; (try clear hb); (try clear hb2); (try clear hk); (try clear hi); (try clear ho0)))
           (try simp only [Act.put, List.setIfInBounds_toArray, List.set_cons_zero, List.set_cons_succ])
           go_cut [92] (fun v92 wc => ∃ (kq : Nat) (x92_62 : Bool), v92 = .bool x92_62 ∧ Aside0 (laws_FnExactExpandDerivative.j2 kq t1153 t1152 x92_62 = some r) ∧ Aside0 (kq ≤ kj39) ∧ Aside0 (Kd.R (Kd.int .i64) 2 wc w.heap.size (fun k_ => some k_ ≠ ((.slice Ao26 t1149.length co26) : Value).ownBlock ∧ some k_ ≠ ((.slice Ao27 t1150.length co27) : Value).ownBlock) (.slice Ao64 t1135.length co64) t1153) ∧ Aside0 (Kd.R (Kd.int .i64) 2 wc w.heap.size (fun k_ => some k_ ≠ ((.slice Ao64 t1135.length co64) : Value).ownBlock ∧ some k_ ≠ ((.slice Ao27 t1150.length co27) : Value).ownBlock) (.slice Ao26 t1149.length co26) t1149) ∧ Aside0 (Kd.R (Kd.int .i64) 2 wc w.heap.size (fun k_ => some k_ ≠ ((.slice Ao64 t1135.length co64) : Value).ownBlock ∧ some k_ ≠ ((.slice Ao26 t1149.length co26) : Value).ownBlock) (.slice Ao27 t1150.length co27) t1150) ∧ Aside0 (wc.heap[gb1114]? = some (.cells #[.int .i64 a0_0, (.slice A0_1 l0_1.length c0_1), (.slice A0_2 l0_2.length c0_2)] 24 (0, 0))) ∧ Aside0 (wc.heap[gb1134]? = some (.cells #[.int .i64 t1127, (.slice Ao26 t1149.length co26), (.slice Ao27 t1150.length co27)] 29 (0, 0))) ∧ Aside0 (Below w.heap.size w wc))
           case first =>
            have H := HC63.out
            clear HC63
            replace H := Option.bind_eq_some_iff.mp H
            obtain ⟨t1166, A720, H⟩ := H
            replace H : (if t1166 = true then (laws_FnExactExpandDerivative.j2 kj39 t1153 t1152 (t1165 != t1126)) else (laws_FnExactExpandDerivative.j2 kj39 t1153 t1152 true)) = some r := H
            have A72 := Aside0.mk A720
            clear A720
            by_cases c73 : t1166 = true
            ·subst c73
             have H1 : (laws_FnExactExpandDerivative.j2 kj39 t1153 t1152 (t1165 != t1126)) = some r := by rw [if_pos rfl] at H; exact H
             clear H
             have H := H1
             clear H1
             have H' := Aside0.mk H
             clear H
             obtain ⟨Ao74, co74, eo74⟩ := Kd.R_slice HO1164.out
             subst eo74
             obtain ⟨Ao75, co75, eo75⟩ := Kd.R_slice HO_6.out
             subst eo75
             go_wp2_with (first | ((with_reducible refine gate_callee (f := 29) rfl ?_); refine goesL_ (some 86) rfl rfl Try.func29 (by kernel_rfl) rfl #[.slice Ao74 t1162.length co74, .slice Ao75 t1123.length co75] rfl ZA ?_; (with_reducible refine (laws_eqInt64S.calls kj39 _ _ t1162 _ _ t1123 true _ ?side1 ?side2 ?side3 ?side4 A72.out).mono ?_); (case side1 => repeat (first | exact (Kd.R_reads' HO1164.out).2.2 | (with_reducible refine Kd.C_alloc ?_ _) | (with_reducible refine Kd.C_drewN ?_ _) | (with_reducible refine Kd.C_drew ?_))); (case side2 => exact (Kd.R_reads' HO1164.out).2.1); (case side3 => repeat (first | exact (Kd.R_reads' HO_6.out).2.2 | (with_reducible refine Kd.C_alloc ?_ _) | (with_reducible refine Kd.C_drewN ?_ _) | (with_reducible refine Kd.C_drew ?_))); (case side4 => exact (Kd.R_reads' HO_6.out).2.1); rintro e w' ⟨rfl, ⟨nd, rfl⟩⟩; refine ⟨_, rfl, ?_⟩))
             go_meet
             case rel => exact ⟨_, ((t1165 != t1126)), (by first | rfl | (simp; done) | (simp [*]; done)), H', ⟨by have := HJ11.out; have := HJ39.out; first | omega | exact Nat.le_refl _⟩, ⟨by (try simp only [hl1135001_39]); (try simp only [hl1135002_39]); refine ZQ ?_; exact Kd.R_mono HO_9.out (fun _ hk => (And.intro (hk.1.1.1.2.1) (hk.1.1.1.2.2)))⟩, ⟨by (try simp only [hl1135001_39]); (try simp only [hl1135002_39]); refine ZQ ?_; exact Kd.R_mono HO_1135001.out (fun _ hk => (And.intro (hk.1.1.1.2.1) (hk.1.1.1.2.2)))⟩, ⟨by (try simp only [hl1135001_39]); (try simp only [hl1135002_39]); refine ZQ ?_; exact Kd.R_mono HO_1135002.out (fun _ hk => (And.intro (hk.1.1.1.2.1) (hk.1.1.1.2.2)))⟩, ⟨by (try simp only [hl1135001_39]); (try simp only [hl1135002_39]); refine ZS ?_; exact BK1114.out⟩, ⟨by (try simp only [hl1135001_39]); (try simp only [hl1135002_39]); refine ZS ?_; exact BK1134.out⟩, ⟨ZB⟩⟩
            ·replace c73 := Bool.eq_false_iff.mpr c73
             subst c73
             have H1 : (laws_FnExactExpandDerivative.j2 kj39 t1153 t1152 true) = some r := by rw [if_neg (show ¬ (false = true) by decide)] at H; exact H
             clear H
             have H := H1
             clear H1
             have H' := Aside0.mk H
             clear H
             obtain ⟨Ao76, co76, eo76⟩ := Kd.R_slice HO1164.out
             subst eo76
             obtain ⟨Ao77, co77, eo77⟩ := Kd.R_slice HO_6.out
             subst eo77
             go_wp2_with (first | ((with_reducible refine gate_callee (f := 29) rfl ?_); refine goesL_ (some 86) rfl rfl Try.func29 (by kernel_rfl) rfl #[.slice Ao76 t1162.length co76, .slice Ao77 t1123.length co77] rfl ZA ?_; (with_reducible refine (laws_eqInt64S.calls kj39 _ _ t1162 _ _ t1123 false _ ?side1 ?side2 ?side3 ?side4 A72.out).mono ?_); (case side1 => repeat (first | exact (Kd.R_reads' HO1164.out).2.2 | (with_reducible refine Kd.C_alloc ?_ _) | (with_reducible refine Kd.C_drewN ?_ _) | (with_reducible refine Kd.C_drew ?_))); (case side2 => exact (Kd.R_reads' HO1164.out).2.1); (case side3 => repeat (first | exact (Kd.R_reads' HO_6.out).2.2 | (with_reducible refine Kd.C_alloc ?_ _) | (with_reducible refine Kd.C_drewN ?_ _) | (with_reducible refine Kd.C_drew ?_))); (case side4 => exact (Kd.R_reads' HO_6.out).2.1); rintro e w' ⟨rfl, ⟨nd, rfl⟩⟩; refine ⟨_, rfl, ?_⟩))
             go_meet
             case rel => exact ⟨_, (true), (by first | rfl | (simp; done) | (simp [*]; done)), H', ⟨by have := HJ11.out; have := HJ39.out; first | omega | exact Nat.le_refl _⟩, ⟨by (try simp only [hl1135001_39]); (try simp only [hl1135002_39]); refine ZQ ?_; exact Kd.R_mono HO_9.out (fun _ hk => (And.intro (hk.1.1.1.2.1) (hk.1.1.1.2.2)))⟩, ⟨by (try simp only [hl1135001_39]); (try simp only [hl1135002_39]); refine ZQ ?_; exact Kd.R_mono HO_1135001.out (fun _ hk => (And.intro (hk.1.1.1.2.1) (hk.1.1.1.2.2)))⟩, ⟨by (try simp only [hl1135001_39]); (try simp only [hl1135002_39]); refine ZQ ?_; exact Kd.R_mono HO_1135002.out (fun _ hk => (And.intro (hk.1.1.1.2.1) (hk.1.1.1.2.2)))⟩, ⟨by (try simp only [hl1135001_39]); (try simp only [hl1135002_39]); refine ZS ?_; exact BK1114.out⟩, ⟨by (try simp only [hl1135001_39]); (try simp only [hl1135002_39]); refine ZS ?_; exact BK1134.out⟩, ⟨ZB⟩⟩
           case rest =>
            clear HC63
            try clear c1
            try clear c2
            try clear p2
            try clear c3
            try clear c4
            try clear c4b0
            try clear c5
            try clear c6
            try clear c7
            try clear c11
            try clear c14
            try clear c16
            try clear c19
            try clear c20
            try clear c24
            try clear c29
            try clear c30
            try clear c31
            try clear c35
            try clear c38
            try clear c42
            try clear c43
            try clear c46
            try clear c49
            try clear c49b0
            try clear c51
            try clear c56
            try clear c59
            try clear c59b0
            try clear c60
            try clear c60b0
            try clear c60b1
            try clear c66
            try clear c73
            try clear hcz14_0
            try clear hcz14_1
            try clear hcz14_2
            try clear hcz16_0
            try clear hcz16_1
            try clear hcz16_2
            try clear hcz21_0
            try clear hcz21_1
            try clear hcz21_2
            try clear hcz25_0
            try clear hcz25_1
            try clear hcz25_2
            try clear hcz47_0
            try clear hcz47_1
            try clear hcz47_2
            try clear hcz67_0
            try clear hcz67_1
            try clear hcz67_2
            try clear hcz6_0
            try clear hcz6_1
            try clear hcz6_2
            try clear hfz14_0
            try clear hfz14_1
            try clear hfz14_2
            try clear hfz16_0
            try clear hfz16_1
            try clear hfz16_2
            try clear hfz21_0
            try clear hfz21_1
            try clear hfz21_2
            try clear hfz25_0
            try clear hfz25_1
            try clear hfz25_2
            try clear hfz47_0
            try clear hfz47_1
            try clear hfz47_2
            try clear hfz67_0
            try clear hfz67_1
            try clear hfz67_2
            try clear hfz6_0
            try clear hfz6_1
            try clear hfz6_2
            try clear p2
            obtain ⟨kq, x92_62, rfl, HA, HJ62, HO_9, HO_1135001, HO_1135002, BK1114, BK1134, HB⟩ := hcut
            have hl9_62 := (Kd.R_reads' HO_9.out).1
            rw [hl9_62] at HO_9
            (try simp only [hl9_62])
            (try simp only [hl9_62] at BK1114)
            (try simp only [hl9_62] at BK1134)
            (try simp only [hl9_62] at HO_1135001)
            (try simp only [hl9_62] at HO_1135002)
            cases kq with
            | zero => exact absurd HA.out (by simp [laws_FnExactExpandDerivative.j2])
            | succ kj62 =>
             have H := HA.out
             clear HA
             simp only [laws_FnExactExpandDerivative.j2] at H
             by_cases c78 : x92_62 = true
             ·subst c78
              have H1 : (some false) = some r := by rw [if_pos rfl] at H; exact H
              clear H
              have H := H1
              clear H1
              exact absurd (H.trans (congrArg some hT.out)) (by simp)
             ·replace c78 := Bool.eq_false_iff.mpr c78
              subst c78
              have H1 : ((laws_heldInt64S.f kj62 t1153 1).bind fun t1167 => (if t1167 < 0 then (some false) else (if t1167 = t1152 then (some true) else (some false)))) = some r := by rw [if_neg (show ¬ (false = true) by decide)] at H; exact H
              clear H
              have H := H1
              clear H1
              replace H := Option.bind_eq_some_iff.mp H
              obtain ⟨t1167, A790, H⟩ := H
              replace H : (if t1167 < 0 then (some false) else (if t1167 = t1152 then (some true) else (some false))) = some r := H
              have A79 := Aside0.mk A790
              clear A790
              by_cases c80 : t1167 < 0
              ·rw [if_pos c80] at H
               have c80b0 : decide (t1167 < 0) = true := decide_eq_true c80
               clear c80
               exact absurd (H.trans (congrArg some hT.out)) (by simp)
              ·rw [if_neg c80] at H
               have c80b0 : decide (t1167 < 0) = false := decide_eq_false c80
               clear c80
               by_cases c81 : t1167 = t1152
               ·rw [if_pos c81] at H
                have c81b0 : (t1167 == t1152) = true := beq_iff_eq.mpr c81
                have c81b1 : (t1167 != t1152) = false := bne_eq_false_iff_eq.mpr c81
                clear c81
                obtain rfl := Option.some.inj H
                go_wp2_with (first | ((with_reducible refine gate_callee (f := 31) rfl ?_); refine goesL_ (some 95) rfl rfl Try.func31 (by kernel_rfl) rfl #[.slice Ao64 t1153.length co64, .int .i64 1] rfl ZA ?_; (with_reducible refine (laws_heldInt64S.calls kj62 _ _ t1153 1 t1167 _ ?side1 ?side2 A79.out).mono ?_); (case side1 => repeat (first | exact (Kd.R_reads' HO_9.out).2.2 | (with_reducible refine Kd.C_alloc ?_ _) | (with_reducible refine Kd.C_drewN ?_ _) | (with_reducible refine Kd.C_drew ?_))); (case side2 => exact (Kd.R_reads' HO_9.out).2.1); rintro e w' ⟨rfl, ⟨nd, rfl⟩⟩; refine ⟨_, rfl, ?_⟩))
                go_ret
                exact ⟨by first | rfl | (simp [errW_none, errW_some] <;> rfl) | (simp [*, errW_none, errW_some] <;> rfl), ZB⟩
               ·rw [if_neg c81] at H
                have c81b0 : (t1167 == t1152) = false := beq_eq_false_iff_ne.mpr c81
                have c81b1 : (t1167 != t1152) = true := bne_iff_ne.mpr c81
                exact absurd (H.trans (congrArg some hT.out)) (by simp)
          ·rw [if_neg c60] at H
           have c60b0 : (t1154 == t1152) = false := beq_eq_false_iff_ne.mpr c60
           have c60b1 : (t1154 != t1152) = true := bne_iff_ne.mpr c60
           exact absurd (H.trans (congrArg some hT.out)) (by simp)
     ·replace c38 := Bool.eq_false_iff.mpr c38
      subst c38
      have H1 : (some false) = some r := by rw [if_neg (show ¬ (false = true) by decide)] at H; exact H
      clear H
      have H := H1
      clear H1
      exact absurd (H.trans (congrArg some hT.out)) (by simp)

end Go.Proofs.Ytaclapojgdekpaa.X
