/- Contracts of functions that the law reaches, printed by a program of this session; Lean checks them. -/
import Derived.Test.YtaclapojgdekpaaCConnectJacobiX0
import Derived.Test.YtaclapojgdekpaaCConnectJacobiX1
import Derived.Test.YtaclapojgdekpaaCConnectJacobiX22
import Derived.Test.YtaclapojgdekpaaCConnectJacobiX23
import Derived.Test.YtaclapojgdekpaaCConnectJacobiX5
import Derived.Test.YtaclapojgdekpaaCConnectJacobiX7
import Derived.Test.YtaclapojgdekpaaCConnectJacobiXZ
namespace Go.Proofs.Ytaclapojgdekpaa.X
open Go.RowKit Go.Proofs.YtaclapojgdekpaaW.PrintWords Go.Proofs.YtaclapojgdekpaaW.PrintLast Go.Proofs.YtaclapojgdekpaaW.PrintMore
attribute [local go_sem] max2_int min2_int max_two min_two max_three min_three max_four min_four   -- for this text's walks alone
set_option linter.unusedVariables false
set_option linter.unusedSimpArgs false

/-! ### laws_FnExactConnectJacobi: function 6 -/
mutual
def laws_FnExactConnectJacobi.j0 : Nat → Int → List Int → Int → List Int → Int → Bool → Int → List Int → List Int → Int → List Int → List Int → Int → List Int → List Int → Int → List Int → List Int → Option (Bool)
 | 0, _, _, _, _, _, _, _, _, _, _, _, _, _, _, _, _, _, _ => none
 | k + 1, x2, x8, x9, x12, x13, x57, x690000, x690001, x690002, x691000, x691001, x691002, x719000, x719001, x719002, x727000, x727001, x727002 => if x57 = true then (some false) else ((laws_toJacobi.f k x690000 x690001 x690002).bind fun bt732 => ((laws_eqJacobi.f k x719000 x719001 x719002 bt732.1 bt732.2.1 bt732.2.2).bind fun t739 => (if t739 = true then ((laws_toJacobi.f k x691000 x691001 x691002).bind fun bt740 => ((laws_eqJacobi.f k x727000 x727001 x727002 bt740.1 bt740.2.1 bt740.2.2).bind fun t747 => (if t747 = true then ((laws_markJacobi.f k x719000 x719001 x719002 1).bind fun bt748 => ((laws_markJacobi.f k x727000 x727001 x727002 bt748.1).bind fun bt751 => (if bt751.1 < 0 then (laws_FnExactConnectJacobi.j1 k x2 x8 x9 x12 true x690000 x690001 x690002 x691000 x691001 x691002) else ((laws_eqInt64S.f k x12 x8).bind fun t754 => (if t754 = true then (laws_FnExactConnectJacobi.j1 k x2 x8 x9 x12 (x13 != x9) x690000 x690001 x690002 x691000 x691001 x691002) else (laws_FnExactConnectJacobi.j1 k x2 x8 x9 x12 true x690000 x690001 x690002 x691000 x691001 x691002)))))) else (some false)))) else (some false))))
def laws_FnExactConnectJacobi.j1 : Nat → Int → List Int → Int → List Int → Bool → Int → List Int → List Int → Int → List Int → List Int → Option (Bool)
 | 0, _, _, _, _, _, _, _, _, _, _, _ => none
 | k + 1, x2, x8, x9, x12, x86, x690000, x690001, x690002, x691000, x691001, x691002 => if x86 = true then (some false) else ((laws_markInt64S.f k x12 1).bind fun bt755 => ((laws_heldInt64S.f k bt755.2 1).bind fun t757 => (if t757 < 0 then (some false) else (if t757 = bt755.1 then ((laws_toJacobi.f k x690000 x690001 x690002).bind fun bt758 => ((laws_toJacobi.f k x691000 x691001 x691002).bind fun bt765 => ((impl_ConnectJacobi.f k bt758.1 bt758.2.1 bt758.2.2 bt765.1 bt765.2.1 bt765.2.2 x2).bind fun bt772 => ((laws_eqInt64S.f k bt772.1 x8).bind fun t776 => (if t776 = true then (laws_FnExactConnectJacobi.j2 k bt755.2 bt755.1 (bt772.2 != x9)) else (laws_FnExactConnectJacobi.j2 k bt755.2 bt755.1 true)))))) else (some false)))))
def laws_FnExactConnectJacobi.j2 : Nat → List Int → Int → Bool → Option (Bool)
 | 0, _, _, _ => none
 | k + 1, x12, x15, x115 => if x115 = true then (some false) else ((laws_heldInt64S.f k x12 1).bind fun t777 => (if t777 < 0 then (some false) else (if t777 = x15 then (some true) else (some false))))
end
def laws_FnExactConnectJacobi.f (k : Nat) (a0_0 : Int) (l0_1 : List Int) (l0_2 : List Int) (a1_0 : Int) (l1_1 : List Int) (l1_2 : List Int) (a2 : Int) : Option (Bool) := (laws_szJacobi.f a0_0 l0_1 l0_2 1048576).bind fun t691 => (if t691 < 0 then (some true) else ((laws_szJacobi.f a1_0 l1_1 l1_2 t691).bind fun t692 => (if t692 < 0 then (some true) else ((laws_toJacobi.f k a0_0 l0_1 l0_2).bind fun bt693 => ((laws_toJacobi.f k a1_0 l1_1 l1_2).bind fun bt700 => ((spec_ConnectJacobi.f k bt693.1 bt693.2.1 bt693.2.2 bt700.1 bt700.2.1 bt700.2.2 a2).bind fun bt707 => ((laws_toJacobi.f k a0_0 l0_1 l0_2).bind fun bt711 => ((laws_toJacobi.f k a1_0 l1_1 l1_2).bind fun bt719 => ((impl_ConnectJacobi.f k bt711.1 bt711.2.1 bt711.2.2 bt719.1 bt719.2.1 bt719.2.2 a2).bind fun bt727 => ((laws_eqInt64S.f k bt727.1 bt707.1).bind fun t731 => (if t731 = true then (laws_FnExactConnectJacobi.j0 k a2 bt707.1 bt707.2 bt727.1 bt727.2 (bt727.2 != bt707.2) a0_0 l0_1 l0_2 a1_0 l1_1 l1_2 bt711.1 bt711.2.1 bt711.2.2 bt719.1 bt719.2.1 bt719.2.2) else (laws_FnExactConnectJacobi.j0 k a2 bt707.1 bt707.2 bt727.1 bt727.2 true a0_0 l0_1 l0_2 a1_0 l1_1 l1_2 bt711.1 bt711.2.1 bt711.2.2 bt719.1 bt719.2.1 bt719.2.2))))))))))))
theorem laws_FnExactConnectJacobi.mono_l : ∀ k, (∀ y0 y1 y2 y3 y4 y5 y6 y7 y8 y9 y10 y11 y12 y13 y14 y15 y16 y17, LeO (laws_FnExactConnectJacobi.j0 k y0 y1 y2 y3 y4 y5 y6 y7 y8 y9 y10 y11 y12 y13 y14 y15 y16 y17) (laws_FnExactConnectJacobi.j0 (k + 1) y0 y1 y2 y3 y4 y5 y6 y7 y8 y9 y10 y11 y12 y13 y14 y15 y16 y17)) ∧ (∀ y0 y1 y2 y3 y4 y5 y6 y7 y8 y9 y10, LeO (laws_FnExactConnectJacobi.j1 k y0 y1 y2 y3 y4 y5 y6 y7 y8 y9 y10) (laws_FnExactConnectJacobi.j1 (k + 1) y0 y1 y2 y3 y4 y5 y6 y7 y8 y9 y10)) ∧ (∀ y0 y1 y2, LeO (laws_FnExactConnectJacobi.j2 k y0 y1 y2) (laws_FnExactConnectJacobi.j2 (k + 1) y0 y1 y2))
 | 0 => ⟨fun _ _ _ _ _ _ _ _ _ _ _ _ _ _ _ _ _ _ r h => by simp [laws_FnExactConnectJacobi.j0] at h, fun _ _ _ _ _ _ _ _ _ _ _ r h => by simp [laws_FnExactConnectJacobi.j1] at h, fun _ _ _ r h => by simp [laws_FnExactConnectJacobi.j2] at h⟩
 | k + 1 => by
  obtain ⟨ih0, ih1, ih2⟩ := laws_FnExactConnectJacobi.mono_l k
  refine ⟨?_, ?_, ?_⟩
  ·intro y0 y1 y2 y3 y4 y5 y6 y7 y8 y9 y10 y11 y12 y13 y14 y15 y16 y17
   unfold laws_FnExactConnectJacobi.j0
   repeat' first
   | (with_reducible exact ih0 _ _ _ _ _ _ _ _ _ _ _ _ _ _ _ _ _ _)
   | (with_reducible exact ih1 _ _ _ _ _ _ _ _ _ _ _)
   | (with_reducible exact ih2 _ _ _)
   | (with_reducible exact impl_ConnectJacobi.mono _ _ _ _ _ _ _ _)
   | (with_reducible exact laws_eqInt64S.mono _ _ _)
   | (with_reducible exact laws_eqJacobi.mono _ _ _ _ _ _ _)
   | (with_reducible exact laws_heldInt64S.mono _ _ _)
   | (with_reducible exact laws_markInt64S.mono _ _ _)
   | (with_reducible exact laws_markJacobi.mono _ _ _ _ _)
   | (with_reducible exact laws_toJacobi.mono _ _ _ _)
   | (with_reducible exact spec_ConnectJacobi.mono _ _ _ _ _ _ _ _)
   | (with_reducible exact LeO.refl _)
   | (with_reducible exact LeO.none _)
   | (with_reducible refine LeO.ite ?_ ?_)
   | (with_reducible refine LeO.bind ?_ (fun _ => ?_))
   | exact ih0 _ _ _ _ _ _ _ _ _ _ _ _ _ _ _ _ _ _
   | exact ih1 _ _ _ _ _ _ _ _ _ _ _
   | exact ih2 _ _ _
   | exact impl_ConnectJacobi.mono _ _ _ _ _ _ _ _
   | exact laws_eqInt64S.mono _ _ _
   | exact laws_eqJacobi.mono _ _ _ _ _ _ _
   | exact laws_heldInt64S.mono _ _ _
   | exact laws_markInt64S.mono _ _ _
   | exact laws_markJacobi.mono _ _ _ _ _
   | exact laws_toJacobi.mono _ _ _ _
   | exact spec_ConnectJacobi.mono _ _ _ _ _ _ _ _
   | exact LeO.none _
   | refine LeO.ite ?_ ?_
   | refine LeO.bind ?_ (fun _ => ?_)
  ·intro y0 y1 y2 y3 y4 y5 y6 y7 y8 y9 y10
   unfold laws_FnExactConnectJacobi.j1
   repeat' first
   | (with_reducible exact ih0 _ _ _ _ _ _ _ _ _ _ _ _ _ _ _ _ _ _)
   | (with_reducible exact ih1 _ _ _ _ _ _ _ _ _ _ _)
   | (with_reducible exact ih2 _ _ _)
   | (with_reducible exact impl_ConnectJacobi.mono _ _ _ _ _ _ _ _)
   | (with_reducible exact laws_eqInt64S.mono _ _ _)
   | (with_reducible exact laws_eqJacobi.mono _ _ _ _ _ _ _)
   | (with_reducible exact laws_heldInt64S.mono _ _ _)
   | (with_reducible exact laws_markInt64S.mono _ _ _)
   | (with_reducible exact laws_markJacobi.mono _ _ _ _ _)
   | (with_reducible exact laws_toJacobi.mono _ _ _ _)
   | (with_reducible exact spec_ConnectJacobi.mono _ _ _ _ _ _ _ _)
   | (with_reducible exact LeO.refl _)
   | (with_reducible exact LeO.none _)
   | (with_reducible refine LeO.ite ?_ ?_)
   | (with_reducible refine LeO.bind ?_ (fun _ => ?_))
   | exact ih0 _ _ _ _ _ _ _ _ _ _ _ _ _ _ _ _ _ _
   | exact ih1 _ _ _ _ _ _ _ _ _ _ _
   | exact ih2 _ _ _
   | exact impl_ConnectJacobi.mono _ _ _ _ _ _ _ _
   | exact laws_eqInt64S.mono _ _ _
   | exact laws_eqJacobi.mono _ _ _ _ _ _ _
   | exact laws_heldInt64S.mono _ _ _
   | exact laws_markInt64S.mono _ _ _
   | exact laws_markJacobi.mono _ _ _ _ _
   | exact laws_toJacobi.mono _ _ _ _
   | exact spec_ConnectJacobi.mono _ _ _ _ _ _ _ _
   | exact LeO.none _
   | refine LeO.ite ?_ ?_
   | refine LeO.bind ?_ (fun _ => ?_)
  ·intro y0 y1 y2
   unfold laws_FnExactConnectJacobi.j2
   repeat' first
   | (with_reducible exact ih0 _ _ _ _ _ _ _ _ _ _ _ _ _ _ _ _ _ _)
   | (with_reducible exact ih1 _ _ _ _ _ _ _ _ _ _ _)
   | (with_reducible exact ih2 _ _ _)
   | (with_reducible exact impl_ConnectJacobi.mono _ _ _ _ _ _ _ _)
   | (with_reducible exact laws_eqInt64S.mono _ _ _)
   | (with_reducible exact laws_eqJacobi.mono _ _ _ _ _ _ _)
   | (with_reducible exact laws_heldInt64S.mono _ _ _)
   | (with_reducible exact laws_markInt64S.mono _ _ _)
   | (with_reducible exact laws_markJacobi.mono _ _ _ _ _)
   | (with_reducible exact laws_toJacobi.mono _ _ _ _)
   | (with_reducible exact spec_ConnectJacobi.mono _ _ _ _ _ _ _ _)
   | (with_reducible exact LeO.refl _)
   | (with_reducible exact LeO.none _)
   | (with_reducible refine LeO.ite ?_ ?_)
   | (with_reducible refine LeO.bind ?_ (fun _ => ?_))
   | exact ih0 _ _ _ _ _ _ _ _ _ _ _ _ _ _ _ _ _ _
   | exact ih1 _ _ _ _ _ _ _ _ _ _ _
   | exact ih2 _ _ _
   | exact impl_ConnectJacobi.mono _ _ _ _ _ _ _ _
   | exact laws_eqInt64S.mono _ _ _
   | exact laws_eqJacobi.mono _ _ _ _ _ _ _
   | exact laws_heldInt64S.mono _ _ _
   | exact laws_markInt64S.mono _ _ _
   | exact laws_markJacobi.mono _ _ _ _ _
   | exact laws_toJacobi.mono _ _ _ _
   | exact spec_ConnectJacobi.mono _ _ _ _ _ _ _ _
   | exact LeO.none _
   | refine LeO.ite ?_ ?_
   | refine LeO.bind ?_ (fun _ => ?_)
theorem laws_FnExactConnectJacobi.mono : ∀ a0 a1 a2 a3 a4 a5 a6 k, LeO (laws_FnExactConnectJacobi.f k a0 a1 a2 a3 a4 a5 a6) (laws_FnExactConnectJacobi.f (k + 1) a0 a1 a2 a3 a4 a5 a6) := by
 intro a0 a1 a2 a3 a4 a5 a6 k
 obtain ⟨ih0, ih1, ih2⟩ := laws_FnExactConnectJacobi.mono_l k
 unfold laws_FnExactConnectJacobi.f
 repeat' first
   | (with_reducible exact ih0 _ _ _ _ _ _ _ _ _ _ _ _ _ _ _ _ _ _)
   | (with_reducible exact ih1 _ _ _ _ _ _ _ _ _ _ _)
   | (with_reducible exact ih2 _ _ _)
   | (with_reducible exact impl_ConnectJacobi.mono _ _ _ _ _ _ _ _)
   | (with_reducible exact laws_eqInt64S.mono _ _ _)
   | (with_reducible exact laws_eqJacobi.mono _ _ _ _ _ _ _)
   | (with_reducible exact laws_heldInt64S.mono _ _ _)
   | (with_reducible exact laws_markInt64S.mono _ _ _)
   | (with_reducible exact laws_markJacobi.mono _ _ _ _ _)
   | (with_reducible exact laws_toJacobi.mono _ _ _ _)
   | (with_reducible exact spec_ConnectJacobi.mono _ _ _ _ _ _ _ _)
   | (with_reducible exact LeO.refl _)
   | (with_reducible exact LeO.none _)
   | (with_reducible refine LeO.ite ?_ ?_)
   | (with_reducible refine LeO.bind ?_ (fun _ => ?_))
   | exact ih0 _ _ _ _ _ _ _ _ _ _ _ _ _ _ _ _ _ _
   | exact ih1 _ _ _ _ _ _ _ _ _ _ _
   | exact ih2 _ _ _
   | exact impl_ConnectJacobi.mono _ _ _ _ _ _ _ _
   | exact laws_eqInt64S.mono _ _ _
   | exact laws_eqJacobi.mono _ _ _ _ _ _ _
   | exact laws_heldInt64S.mono _ _ _
   | exact laws_markInt64S.mono _ _ _
   | exact laws_markJacobi.mono _ _ _ _ _
   | exact laws_toJacobi.mono _ _ _ _
   | exact spec_ConnectJacobi.mono _ _ _ _ _ _ _ _
   | exact LeO.none _
   | refine LeO.ite ?_ ?_
   | refine LeO.bind ?_ (fun _ => ?_)
def laws_FnExactConnectJacobi.T8 : Bool × List (List Nat × List Nat) := (true, [([], []), ([0], [0]), ([], []), ([2, 1], [2]), ([], []), ([1, 3, 4, 3], [1, 3, 4]), ([5], [5]), ([6], [6]), ([6], [6]), ([7, 5, 0, 1, 2, 3, 4, 5, 6, 7], [7]), ([8, 9, 0, 1, 2, 3, 4, 5, 6, 7, 8, 9], [8])])
def laws_FnExactConnectJacobi.B8 : List Nat := [0, 1, 0, 7, 0, 31, 63, 127, 127, 255, 1023]
theorem laws_FnExactConnectJacobi.tab8 : rtab .any (opsOf Try.f6 8) = laws_FnExactConnectJacobi.T8 := by kernel_rfl
theorem laws_FnExactConnectJacobi.bits8 : waitsOk laws_FnExactConnectJacobi.T8.2 laws_FnExactConnectJacobi.B8 = true := by kernel_rfl
def laws_FnExactConnectJacobi.T31 : Bool × List (List Nat × List Nat) := (true, [([], []), ([0], [0]), ([], []), ([2, 1], [2]), ([], []), ([1, 3, 4, 3], [1, 3, 4]), ([5], [5]), ([6], [6]), ([6], [6]), ([7, 5, 0, 1, 2, 3, 4, 5, 6, 7], [7]), ([8, 9, 0, 1, 2, 3, 4, 5, 6, 7, 8, 9], [8])])
def laws_FnExactConnectJacobi.B31 : List Nat := [0, 1, 0, 7, 0, 31, 63, 127, 127, 255, 1023]
theorem laws_FnExactConnectJacobi.tab31 : rtab .any (opsOf Try.f6 31) = laws_FnExactConnectJacobi.T31 := by kernel_rfl
theorem laws_FnExactConnectJacobi.bits31 : waitsOk laws_FnExactConnectJacobi.T31.2 laws_FnExactConnectJacobi.B31 = true := by kernel_rfl
set_option maxHeartbeats 8000000 in
set_option maxRecDepth 100000 in
theorem laws_FnExactConnectJacobi.calls (k : Nat) (a0_0 : Int) (A0_1 : Option Addr) (c0_1 : Nat) (l0_1 : List Int) (A0_2 : Option Addr) (c0_2 : Nat) (l0_2 : List Int) (a1_0 : Int) (A1_1 : Option Addr) (c1_1 : Nat) (l1_1 : List Int) (A1_2 : Option Addr) (c1_2 : Nat) (l1_2 : List Int) (a2 : Int) (r : Bool) (w : World) (hr0_1 : Kd.C (Kd.int .i64) w A0_1 l0_1.length l0_1) (hc0_1 : l0_1.length ≤ c0_1) (hr0_2 : Kd.C (Kd.int .i64) w A0_2 l0_2.length l0_2) (hc0_2 : l0_2.length ≤ c0_2) (hr1_1 : Kd.C (Kd.int .i64) w A1_1 l1_1.length l1_1) (hc1_1 : l1_1.length ≤ c1_1) (hr1_2 : Kd.C (Kd.int .i64) w A1_2 l1_2.length l1_2) (hc1_2 : l1_2.length ≤ c1_2) (hT : Aside0 (r = true)) (h : laws_FnExactConnectJacobi.f k a0_0 l0_1 l0_2 a1_0 l1_1 l1_2 a2 = some r) :
  Calls Try.prog 6 #[.agg #[.int .i64 a0_0, .slice A0_1 l0_1.length c0_1, .slice A0_2 l0_2.length c0_2], .agg #[.int .i64 a1_0, .slice A1_1 l1_1.length c1_1, .slice A1_2 l1_2.length c1_2], .int .i64 a2] w fun e w' => e = .returned (.bool r) ∧ Below w.heap.size w w' := by
 have hu24 := Try.underlying24
 have hu29 := Try.underlying29
 have HR0_1 := Aside0.mk hr0_1
 have HC0_1 := Aside0.mk hc0_1
 clear hr0_1 hc0_1
 have HR0_2 := Aside0.mk hr0_2
 have HC0_2 := Aside0.mk hc0_2
 clear hr0_2 hc0_2
 have HR1_1 := Aside0.mk hr1_1
 have HC1_1 := Aside0.mk hc1_1
 clear hr1_1 hc1_1
 have HR1_2 := Aside0.mk hr1_2
 have HC1_2 := Aside0.mk hc1_2
 clear hr1_2 hc1_2
 have HB := Aside0.mk (Below.refl w.heap.size w)
 have H : ((laws_szJacobi.f a0_0 l0_1 l0_2 1048576).bind fun t691 => (if t691 < 0 then (some true) else ((laws_szJacobi.f a1_0 l1_1 l1_2 t691).bind fun t692 => (if t692 < 0 then (some true) else ((laws_toJacobi.f k a0_0 l0_1 l0_2).bind fun bt693 => ((laws_toJacobi.f k a1_0 l1_1 l1_2).bind fun bt700 => ((spec_ConnectJacobi.f k bt693.1 bt693.2.1 bt693.2.2 bt700.1 bt700.2.1 bt700.2.2 a2).bind fun bt707 => ((laws_toJacobi.f k a0_0 l0_1 l0_2).bind fun bt711 => ((laws_toJacobi.f k a1_0 l1_1 l1_2).bind fun bt719 => ((impl_ConnectJacobi.f k bt711.1 bt711.2.1 bt711.2.2 bt719.1 bt719.2.1 bt719.2.2 a2).bind fun bt727 => ((laws_eqInt64S.f k bt727.1 bt707.1).bind fun t731 => (if t731 = true then (laws_FnExactConnectJacobi.j0 k a2 bt707.1 bt707.2 bt727.1 bt727.2 (bt727.2 != bt707.2) a0_0 l0_1 l0_2 a1_0 l1_1 l1_2 bt711.1 bt711.2.1 bt711.2.2 bt719.1 bt719.2.1 bt719.2.2) else (laws_FnExactConnectJacobi.j0 k a2 bt707.1 bt707.2 bt727.1 bt727.2 true a0_0 l0_1 l0_2 a1_0 l1_1 l1_2 bt711.1 bt711.2.1 bt711.2.2 bt719.1 bt719.2.1 bt719.2.2))))))))))))) = some r := h
 clear h
 replace H := Option.bind_eq_some_iff.mp H
 obtain ⟨t691, A40, H⟩ := H
 replace H : (if t691 < 0 then (some true) else ((laws_szJacobi.f a1_0 l1_1 l1_2 t691).bind fun t692 => (if t692 < 0 then (some true) else ((laws_toJacobi.f k a0_0 l0_1 l0_2).bind fun bt693 => ((laws_toJacobi.f k a1_0 l1_1 l1_2).bind fun bt700 => ((spec_ConnectJacobi.f k bt693.1 bt693.2.1 bt693.2.2 bt700.1 bt700.2.1 bt700.2.2 a2).bind fun bt707 => ((laws_toJacobi.f k a0_0 l0_1 l0_2).bind fun bt711 => ((laws_toJacobi.f k a1_0 l1_1 l1_2).bind fun bt719 => ((impl_ConnectJacobi.f k bt711.1 bt711.2.1 bt711.2.2 bt719.1 bt719.2.1 bt719.2.2 a2).bind fun bt727 => ((laws_eqInt64S.f k bt727.1 bt707.1).bind fun t731 => (if t731 = true then (laws_FnExactConnectJacobi.j0 k a2 bt707.1 bt707.2 bt727.1 bt727.2 (bt727.2 != bt707.2) a0_0 l0_1 l0_2 a1_0 l1_1 l1_2 bt711.1 bt711.2.1 bt711.2.2 bt719.1 bt719.2.1 bt719.2.2) else (laws_FnExactConnectJacobi.j0 k a2 bt707.1 bt707.2 bt727.1 bt727.2 true a0_0 l0_1 l0_2 a1_0 l1_1 l1_2 bt711.1 bt711.2.1 bt711.2.2 bt719.1 bt719.2.1 bt719.2.2)))))))))))) = some r := H
 have A4 := Aside0.mk A40
 clear A40
 by_cases c5 : t691 < 0
 ·rw [if_pos c5] at H
  have c5b0 : decide (t691 < 0) = true := decide_eq_true c5
  clear c5
  obtain rfl := Option.some.inj H
  go_enter Try.func6, Try.ntmps6
  go_wp2_with (first | ((with_reducible refine gate_dst (N := 3) rfl ?_); refine box_event ?hg (N := 3) ?hd (cs := #[.int .i64 a0_0, .slice A0_1 l0_1.length c0_1, .slice A0_2 l0_2.length c0_2]) (t := 24) ?hr ?_; (case hd => rfl); (case hg => rfl); (case hr => first | (go_simp; done) | (go_simp; rfl)); intro gb689 hg w6 hbox hb; have n0_ := Aside0.mk (below_step ZB hb); have n1_ := Aside0.mk (hbox); have n2_ := Aside0.mk ((ZG hg : w.heap.size ≤ gb689)); have n3_ := Aside0.mk ((ZG hg : w.heap.size ≤ gb689)); clear HB; have HB := n0_; have BK689 := n1_; have GW689 := n2_; have GE689 := n3_; clear n0_ n1_ n2_ n3_; clear hb hbox hg) | ((with_reducible refine gate_dst (N := 4) rfl ?_); refine box_event ?hg (N := 4) ?hd (cs := #[.int .i64 a1_0, .slice A1_1 l1_1.length c1_1, .slice A1_2 l1_2.length c1_2]) (t := 24) ?hr ?_; (case hd => rfl); (case hg => rfl); (case hr => first | (go_simp; done) | (go_simp; rfl)); intro gb690 hg w7 hbox hb; have n0_ := ZL BK689 hb; have n1_ := Aside0.mk (below_step ZB hb); have n2_ := Aside0.mk (hbox); have n3_ := Aside0.mk ((ZG hg : w.heap.size ≤ gb690)); have n4_ := Aside0.mk ((ZG hg : w.heap.size ≤ gb690)); have n5_ := Aside0.mk ((ZN hg BK689 : gb689 ≠ gb690)); have n6_ := Aside0.mk ((ZM hg BK689 : gb690 ≠ gb689)); clear BK689; clear HB; have BK689 := n0_; have HB := n1_; have BK690 := n2_; have GW690 := n3_; have GE690 := n4_; have NB689_690 := n5_; have NB690_689 := n6_; clear n0_ n1_ n2_ n3_ n4_ n5_ n6_; clear hb hbox hg; have hnb8 := NB689_690.out; have hnc8 := NB690_689.out; obtain ⟨hcz9_0, hcz9_1, hcz9_2, hfz9_0, hfz9_1, hfz9_2⟩ := ZD3 BK689) | ((with_reducible refine gate_callee (f := 14) rfl ?_); refine goesL_ (some 21) rfl rfl Try.func14 (by kernel_rfl) rfl #[.agg #[.int .i64 a0_0, .slice A0_1 l0_1.length c0_1, .slice A0_2 l0_2.length c0_2], .int .i64 1048576] rfl ZA ?_; (with_reducible refine (laws_szJacobi.calls a0_0 _ _ l0_1 _ _ l0_2 1048576 t691 _ ?side1 ?side2 ?side3 ?side4 A4.out).mono ?_); (case side1 => exact ZC HR0_1); (case side2 => exact HC0_1.out); (case side3 => exact ZC HR0_2); (case side4 => exact HC0_2.out); rintro e w10 ⟨rfl, hb⟩; refine ⟨_, rfl, ?_⟩; have n0_ := ZL BK689 hb; have n1_ := ZL BK690 hb; have n2_ := Aside0.mk (below_step ZB hb); clear BK689; clear BK690; clear HB; have BK689 := n0_; have BK690 := n1_; have HB := n2_; clear n0_ n1_ n2_; (try clear hb); (try clear hb2); (try clear hk); (try clear hi)))
  go_ret
  exact ⟨by first | rfl | (simp [errW_none, errW_some] <;> rfl) | (simp [*, errW_none, errW_some] <;> rfl), ZB⟩
 ·rw [if_neg c5] at H
  have c5b0 : decide (t691 < 0) = false := decide_eq_false c5
  clear c5
  replace H := Option.bind_eq_some_iff.mp H
  obtain ⟨t692, A110, H⟩ := H
  replace H : (if t692 < 0 then (some true) else ((laws_toJacobi.f k a0_0 l0_1 l0_2).bind fun bt693 => ((laws_toJacobi.f k a1_0 l1_1 l1_2).bind fun bt700 => ((spec_ConnectJacobi.f k bt693.1 bt693.2.1 bt693.2.2 bt700.1 bt700.2.1 bt700.2.2 a2).bind fun bt707 => ((laws_toJacobi.f k a0_0 l0_1 l0_2).bind fun bt711 => ((laws_toJacobi.f k a1_0 l1_1 l1_2).bind fun bt719 => ((impl_ConnectJacobi.f k bt711.1 bt711.2.1 bt711.2.2 bt719.1 bt719.2.1 bt719.2.2 a2).bind fun bt727 => ((laws_eqInt64S.f k bt727.1 bt707.1).bind fun t731 => (if t731 = true then (laws_FnExactConnectJacobi.j0 k a2 bt707.1 bt707.2 bt727.1 bt727.2 (bt727.2 != bt707.2) a0_0 l0_1 l0_2 a1_0 l1_1 l1_2 bt711.1 bt711.2.1 bt711.2.2 bt719.1 bt719.2.1 bt719.2.2) else (laws_FnExactConnectJacobi.j0 k a2 bt707.1 bt707.2 bt727.1 bt727.2 true a0_0 l0_1 l0_2 a1_0 l1_1 l1_2 bt711.1 bt711.2.1 bt711.2.2 bt719.1 bt719.2.1 bt719.2.2)))))))))) = some r := H
  have A11 := Aside0.mk A110
  clear A110
  by_cases c12 : t692 < 0
  ·rw [if_pos c12] at H
   have c12b0 : decide (t692 < 0) = true := decide_eq_true c12
   clear c12
   obtain rfl := Option.some.inj H
   go_enter Try.func6, Try.ntmps6
   go_wp2_with (first | ((with_reducible refine gate_dst (N := 3) rfl ?_); refine box_event ?hg (N := 3) ?hd (cs := #[.int .i64 a0_0, .slice A0_1 l0_1.length c0_1, .slice A0_2 l0_2.length c0_2]) (t := 24) ?hr ?_; (case hd => rfl); (case hg => rfl); (case hr => first | (go_simp; done) | (go_simp; rfl)); intro gb689 hg w13 hbox hb; have n0_ := Aside0.mk (below_step ZB hb); have n1_ := Aside0.mk (hbox); have n2_ := Aside0.mk ((ZG hg : w.heap.size ≤ gb689)); have n3_ := Aside0.mk ((ZG hg : w.heap.size ≤ gb689)); clear HB; have HB := n0_; have BK689 := n1_; have GW689 := n2_; have GE689 := n3_; clear n0_ n1_ n2_ n3_; clear hb hbox hg) | ((with_reducible refine gate_dst (N := 4) rfl ?_); refine box_event ?hg (N := 4) ?hd (cs := #[.int .i64 a1_0, .slice A1_1 l1_1.length c1_1, .slice A1_2 l1_2.length c1_2]) (t := 24) ?hr ?_; (case hd => rfl); (case hg => rfl); (case hr => first | (go_simp; done) | (go_simp; rfl)); intro gb690 hg w14 hbox hb; have n0_ := ZL BK689 hb; have n1_ := Aside0.mk (below_step ZB hb); have n2_ := Aside0.mk (hbox); have n3_ := Aside0.mk ((ZG hg : w.heap.size ≤ gb690)); have n4_ := Aside0.mk ((ZG hg : w.heap.size ≤ gb690)); have n5_ := Aside0.mk ((ZN hg BK689 : gb689 ≠ gb690)); have n6_ := Aside0.mk ((ZM hg BK689 : gb690 ≠ gb689)); clear BK689; clear HB; have BK689 := n0_; have HB := n1_; have BK690 := n2_; have GW690 := n3_; have GE690 := n4_; have NB689_690 := n5_; have NB690_689 := n6_; clear n0_ n1_ n2_ n3_ n4_ n5_ n6_; clear hb hbox hg; have hnb15 := NB689_690.out; have hnc15 := NB690_689.out; obtain ⟨hcz16_0, hcz16_1, hcz16_2, hfz16_0, hfz16_1, hfz16_2⟩ := ZD3 BK689) | ((with_reducible refine gate_callee (f := 14) rfl ?_); refine goesL_ (some 21) rfl rfl Try.func14 (by kernel_rfl) rfl #[.agg #[.int .i64 a0_0, .slice A0_1 l0_1.length c0_1, .slice A0_2 l0_2.length c0_2], .int .i64 1048576] rfl ZA ?_; (with_reducible refine (laws_szJacobi.calls a0_0 _ _ l0_1 _ _ l0_2 1048576 t691 _ ?side1 ?side2 ?side3 ?side4 A4.out).mono ?_); (case side1 => exact ZC HR0_1); (case side2 => exact HC0_1.out); (case side3 => exact ZC HR0_2); (case side4 => exact HC0_2.out); rintro e w17 ⟨rfl, hb⟩; refine ⟨_, rfl, ?_⟩; have n0_ := ZL BK689 hb; have n1_ := ZL BK690 hb; have n2_ := Aside0.mk (below_step ZB hb); clear BK689; clear BK690; clear HB; have BK689 := n0_; have BK690 := n1_; have HB := n2_; clear n0_ n1_ n2_; (try clear hb); (try clear hb2); (try clear hk); (try clear hi); obtain ⟨hcz18_0, hcz18_1, hcz18_2, hfz18_0, hfz18_1, hfz18_2⟩ := ZD3 BK690) | ((with_reducible refine gate_callee (f := 14) rfl ?_); refine goesL_ (some 26) rfl rfl Try.func14 (by kernel_rfl) rfl #[.agg #[.int .i64 a1_0, .slice A1_1 l1_1.length c1_1, .slice A1_2 l1_2.length c1_2], .int .i64 t691] rfl ZA ?_; (with_reducible refine (laws_szJacobi.calls a1_0 _ _ l1_1 _ _ l1_2 t691 t692 _ ?side1 ?side2 ?side3 ?side4 A11.out).mono ?_); (case side1 => exact ZC HR1_1); (case side2 => exact HC1_1.out); (case side3 => exact ZC HR1_2); (case side4 => exact HC1_2.out); rintro e w19 ⟨rfl, hb⟩; refine ⟨_, rfl, ?_⟩; have n0_ := ZL BK689 hb; have n1_ := ZL BK690 hb; have n2_ := Aside0.mk (below_step ZB hb); clear BK689; clear BK690; clear HB; have BK689 := n0_; have BK690 := n1_; have HB := n2_; clear n0_ n1_ n2_; (try clear hb); (try clear hb2); (try clear hk); (try clear hi)))
   go_ret
   exact ⟨by first | rfl | (simp [errW_none, errW_some] <;> rfl) | (simp [*, errW_none, errW_some] <;> rfl), ZB⟩
  ·rw [if_neg c12] at H
   have c12b0 : decide (t692 < 0) = false := decide_eq_false c12
   clear c12
   replace H := Option.bind_eq_some_iff.mp H
   obtain ⟨⟨t693, t694, t697⟩, A200, H⟩ := H
   replace H : ((laws_toJacobi.f k a1_0 l1_1 l1_2).bind fun bt700 => ((spec_ConnectJacobi.f k t693 t694 t697 bt700.1 bt700.2.1 bt700.2.2 a2).bind fun bt707 => ((laws_toJacobi.f k a0_0 l0_1 l0_2).bind fun bt711 => ((laws_toJacobi.f k a1_0 l1_1 l1_2).bind fun bt719 => ((impl_ConnectJacobi.f k bt711.1 bt711.2.1 bt711.2.2 bt719.1 bt719.2.1 bt719.2.2 a2).bind fun bt727 => ((laws_eqInt64S.f k bt727.1 bt707.1).bind fun t731 => (if t731 = true then (laws_FnExactConnectJacobi.j0 k a2 bt707.1 bt707.2 bt727.1 bt727.2 (bt727.2 != bt707.2) a0_0 l0_1 l0_2 a1_0 l1_1 l1_2 bt711.1 bt711.2.1 bt711.2.2 bt719.1 bt719.2.1 bt719.2.2) else (laws_FnExactConnectJacobi.j0 k a2 bt707.1 bt707.2 bt727.1 bt727.2 true a0_0 l0_1 l0_2 a1_0 l1_1 l1_2 bt711.1 bt711.2.1 bt711.2.2 bt719.1 bt719.2.1 bt719.2.2)))))))) = some r := H
   have A20 := Aside0.mk A200
   clear A200
   replace H := Option.bind_eq_some_iff.mp H
   obtain ⟨⟨t700, t701, t704⟩, A210, H⟩ := H
   replace H : ((spec_ConnectJacobi.f k t693 t694 t697 t700 t701 t704 a2).bind fun bt707 => ((laws_toJacobi.f k a0_0 l0_1 l0_2).bind fun bt711 => ((laws_toJacobi.f k a1_0 l1_1 l1_2).bind fun bt719 => ((impl_ConnectJacobi.f k bt711.1 bt711.2.1 bt711.2.2 bt719.1 bt719.2.1 bt719.2.2 a2).bind fun bt727 => ((laws_eqInt64S.f k bt727.1 bt707.1).bind fun t731 => (if t731 = true then (laws_FnExactConnectJacobi.j0 k a2 bt707.1 bt707.2 bt727.1 bt727.2 (bt727.2 != bt707.2) a0_0 l0_1 l0_2 a1_0 l1_1 l1_2 bt711.1 bt711.2.1 bt711.2.2 bt719.1 bt719.2.1 bt719.2.2) else (laws_FnExactConnectJacobi.j0 k a2 bt707.1 bt707.2 bt727.1 bt727.2 true a0_0 l0_1 l0_2 a1_0 l1_1 l1_2 bt711.1 bt711.2.1 bt711.2.2 bt719.1 bt719.2.1 bt719.2.2))))))) = some r := H
   have A21 := Aside0.mk A210
   clear A210
   replace H := Option.bind_eq_some_iff.mp H
   obtain ⟨⟨t707, t710⟩, A220, H⟩ := H
   replace H : ((laws_toJacobi.f k a0_0 l0_1 l0_2).bind fun bt711 => ((laws_toJacobi.f k a1_0 l1_1 l1_2).bind fun bt719 => ((impl_ConnectJacobi.f k bt711.1 bt711.2.1 bt711.2.2 bt719.1 bt719.2.1 bt719.2.2 a2).bind fun bt727 => ((laws_eqInt64S.f k bt727.1 t707).bind fun t731 => (if t731 = true then (laws_FnExactConnectJacobi.j0 k a2 t707 t710 bt727.1 bt727.2 (bt727.2 != t710) a0_0 l0_1 l0_2 a1_0 l1_1 l1_2 bt711.1 bt711.2.1 bt711.2.2 bt719.1 bt719.2.1 bt719.2.2) else (laws_FnExactConnectJacobi.j0 k a2 t707 t710 bt727.1 bt727.2 true a0_0 l0_1 l0_2 a1_0 l1_1 l1_2 bt711.1 bt711.2.1 bt711.2.2 bt719.1 bt719.2.1 bt719.2.2)))))) = some r := H
   have A22 := Aside0.mk A220
   clear A220
   replace H := Option.bind_eq_some_iff.mp H
   obtain ⟨⟨t711, t712, t715⟩, A230, H⟩ := H
   replace H : ((laws_toJacobi.f k a1_0 l1_1 l1_2).bind fun bt719 => ((impl_ConnectJacobi.f k t711 t712 t715 bt719.1 bt719.2.1 bt719.2.2 a2).bind fun bt727 => ((laws_eqInt64S.f k bt727.1 t707).bind fun t731 => (if t731 = true then (laws_FnExactConnectJacobi.j0 k a2 t707 t710 bt727.1 bt727.2 (bt727.2 != t710) a0_0 l0_1 l0_2 a1_0 l1_1 l1_2 t711 t712 t715 bt719.1 bt719.2.1 bt719.2.2) else (laws_FnExactConnectJacobi.j0 k a2 t707 t710 bt727.1 bt727.2 true a0_0 l0_1 l0_2 a1_0 l1_1 l1_2 t711 t712 t715 bt719.1 bt719.2.1 bt719.2.2))))) = some r := H
   have A23 := Aside0.mk A230
   clear A230
   replace H := Option.bind_eq_some_iff.mp H
   obtain ⟨⟨t719, t720, t723⟩, A240, H⟩ := H
   replace H : ((impl_ConnectJacobi.f k t711 t712 t715 t719 t720 t723 a2).bind fun bt727 => ((laws_eqInt64S.f k bt727.1 t707).bind fun t731 => (if t731 = true then (laws_FnExactConnectJacobi.j0 k a2 t707 t710 bt727.1 bt727.2 (bt727.2 != t710) a0_0 l0_1 l0_2 a1_0 l1_1 l1_2 t711 t712 t715 t719 t720 t723) else (laws_FnExactConnectJacobi.j0 k a2 t707 t710 bt727.1 bt727.2 true a0_0 l0_1 l0_2 a1_0 l1_1 l1_2 t711 t712 t715 t719 t720 t723)))) = some r := H
   have A24 := Aside0.mk A240
   clear A240
   replace H := Option.bind_eq_some_iff.mp H
   obtain ⟨⟨t727, t730⟩, A250, H⟩ := H
   replace H : ((laws_eqInt64S.f k t727 t707).bind fun t731 => (if t731 = true then (laws_FnExactConnectJacobi.j0 k a2 t707 t710 t727 t730 (t730 != t710) a0_0 l0_1 l0_2 a1_0 l1_1 l1_2 t711 t712 t715 t719 t720 t723) else (laws_FnExactConnectJacobi.j0 k a2 t707 t710 t727 t730 true a0_0 l0_1 l0_2 a1_0 l1_1 l1_2 t711 t712 t715 t719 t720 t723))) = some r := H
   have A25 := Aside0.mk A250
   clear A250
   have HC26 := Aside0.mk H
   clear H
   go_enter Try.func6, Try.ntmps6
   try go_wp2_with (first | ((with_reducible refine gate_dst (N := 3) rfl ?_); refine box_event ?hg (N := 3) ?hd (cs := #[.int .i64 a0_0, .slice A0_1 l0_1.length c0_1, .slice A0_2 l0_2.length c0_2]) (t := 24) ?hr ?_; (case hd => rfl); (case hg => rfl); (case hr => first | (go_simp; done) | (go_simp; rfl)); intro gb689 hg w27 hbox hb; have n0_ := Aside0.mk (below_step ZB hb); have n1_ := Aside0.mk (hbox); have n2_ := Aside0.mk ((ZG hg : w.heap.size ≤ gb689)); have n3_ := Aside0.mk ((ZG hg : w.heap.size ≤ gb689)); clear HB; have HB := n0_; have BK689 := n1_; have GW689 := n2_; have GE689 := n3_; clear n0_ n1_ n2_ n3_; clear hb hbox hg) | ((with_reducible refine gate_dst (N := 4) rfl ?_); refine box_event ?hg (N := 4) ?hd (cs := #[.int .i64 a1_0, .slice A1_1 l1_1.length c1_1, .slice A1_2 l1_2.length c1_2]) (t := 24) ?hr ?_; (case hd => rfl); (case hg => rfl); (case hr => first | (go_simp; done) | (go_simp; rfl)); intro gb690 hg w28 hbox hb; have n0_ := ZL BK689 hb; have n1_ := Aside0.mk (below_step ZB hb); have n2_ := Aside0.mk (hbox); have n3_ := Aside0.mk ((ZG hg : w.heap.size ≤ gb690)); have n4_ := Aside0.mk ((ZG hg : w.heap.size ≤ gb690)); have n5_ := Aside0.mk ((ZN hg BK689 : gb689 ≠ gb690)); have n6_ := Aside0.mk ((ZM hg BK689 : gb690 ≠ gb689)); clear BK689; clear HB; have BK689 := n0_; have HB := n1_; have BK690 := n2_; have GW690 := n3_; have GE690 := n4_; have NB689_690 := n5_; have NB690_689 := n6_; clear n0_ n1_ n2_ n3_ n4_ n5_ n6_; clear hb hbox hg; have hnb29 := NB689_690.out; have hnc29 := NB690_689.out; obtain ⟨hcz30_0, hcz30_1, hcz30_2, hfz30_0, hfz30_1, hfz30_2⟩ := ZD3 BK689) | ((with_reducible refine gate_callee (f := 14) rfl ?_); refine goesL_ (some 21) rfl rfl Try.func14 (by kernel_rfl) rfl #[.agg #[.int .i64 a0_0, .slice A0_1 l0_1.length c0_1, .slice A0_2 l0_2.length c0_2], .int .i64 1048576] rfl ZA ?_; (with_reducible refine (laws_szJacobi.calls a0_0 _ _ l0_1 _ _ l0_2 1048576 t691 _ ?side1 ?side2 ?side3 ?side4 A4.out).mono ?_); (case side1 => exact ZC HR0_1); (case side2 => exact HC0_1.out); (case side3 => exact ZC HR0_2); (case side4 => exact HC0_2.out); rintro e w31 ⟨rfl, hb⟩; refine ⟨_, rfl, ?_⟩; have n0_ := ZL BK689 hb; have n1_ := ZL BK690 hb; have n2_ := Aside0.mk (below_step ZB hb); clear BK689; clear BK690; clear HB; have BK689 := n0_; have BK690 := n1_; have HB := n2_; clear n0_ n1_ n2_; (try clear hb); (try clear hb2); (try clear hk); (try clear hi); obtain ⟨hcz32_0, hcz32_1, hcz32_2, hfz32_0, hfz32_1, hfz32_2⟩ := ZD3 BK690) | ((with_reducible refine gate_callee (f := 14) rfl ?_); refine goesL_ (some 26) rfl rfl Try.func14 (by kernel_rfl) rfl #[.agg #[.int .i64 a1_0, .slice A1_1 l1_1.length c1_1, .slice A1_2 l1_2.length c1_2], .int .i64 t691] rfl ZA ?_; (with_reducible refine (laws_szJacobi.calls a1_0 _ _ l1_1 _ _ l1_2 t691 t692 _ ?side1 ?side2 ?side3 ?side4 A11.out).mono ?_); (case side1 => exact ZC HR1_1); (case side2 => exact HC1_1.out); (case side3 => exact ZC HR1_2); (case side4 => exact HC1_2.out); rintro e w33 ⟨rfl, hb⟩; refine ⟨_, rfl, ?_⟩; have n0_ := ZL BK689 hb; have n1_ := ZL BK690 hb; have n2_ := Aside0.mk (below_step ZB hb); clear BK689; clear BK690; clear HB; have BK689 := n0_; have BK690 := n1_; have HB := n2_; clear n0_ n1_ n2_; (try clear hb); (try clear hb2); (try clear hk); (try clear hi)))
   have n0_ := Aside0.mk (blk_drew BK689.out)
   have n1_ := Aside0.mk (blk_drew BK690.out)
   have n2_ := Aside0.mk (below_drew1 HB.out)
   clear BK689
   clear BK690
   clear HB
   have BK689 := n0_
   have BK690 := n1_
   have HB := n2_
   clear n0_ n1_ n2_
   refine start_ (n := 11) (S := fun w' => w'.cell? ⟨gb689, 0, none⟩ = some (.int .i64 a0_0) ∧ w'.cell? ⟨gb689, 1, none⟩ = some (.slice A0_1 l0_1.length c0_1) ∧ w'.cell? ⟨gb689, 2, none⟩ = some (.slice A0_2 l0_2.length c0_2) ∧ w'.cell? ⟨gb690, 0, none⟩ = some (.int .i64 a1_0) ∧ w'.cell? ⟨gb690, 1, none⟩ = some (.slice A1_1 l1_1.length c1_1) ∧ w'.cell? ⟨gb690, 2, none⟩ = some (.slice A1_2 l1_2.length c1_2)) (ds := []) #[false, false, false, false, false, false, false, false, false, false, false] (by kernel_rfl) rfl rfl ⟨(blk_cell BK689.out 0).trans rfl, (blk_cell BK689.out 1).trans rfl, (blk_cell BK689.out 2).trans rfl, (blk_cell BK690.out 0).trans rfl, (blk_cell BK690.out 1).trans rfl, (blk_cell BK690.out 2).trans rfl⟩ (fun hHeld => ?_); refine with_tabW laws_FnExactConnectJacobi.tab8 laws_FnExactConnectJacobi.bits8 (fun HT_ HW_ => ?_)
   generalize w33.drew = w34 at BK689 BK690 HB hHeld ⊢
   refine Zpt 4 (some 34) (h := ?_)
   refine ZtW6 0 (some 30) hHeld (h := ?_)
   refine ZtW6 2 (some 32) hHeld (h := ?_)
   refine one_ (i := 1) (N := some 31) #[true, true, true, false, true, false, false, false, false, false, false] rfl rfl (one_of HT_.out (by kernel_rfl)) (by decide) (fun K hK => ?_)
   refine goes_ Try.func16 (by kernel_rfl) rfl #[.agg #[.int .i64 a0_0, .slice A0_1 l0_1.length c0_1, .slice A0_2 l0_2.length c0_2]] (by rfl) rfl rfl ZA ?_
   with_reducible refine (laws_toJacobi.calls k a0_0 _ _ l0_1 _ _ l0_2 t693 t694 t697 _ ?side1 ?side2 ?side3 ?side4 A20.out).mono ?_
   (case side1 => exact ZC HR0_1)
   (case side2 => exact HC0_1.out)
   (case side3 => exact ZC HR0_2)
   (case side4 => exact HC0_2.out)
   rintro e w35 ⟨v695, v698, rfl, ho0, ho1, hb⟩
   refine ⟨_, rfl, ?_⟩
   have n0_ := Aside0.mk (Kd.R_lower ho0 (below_size ZB))
   have n1_ := Aside0.mk (Kd.R_lower ho1 (below_size ZB))
   have n2_ := ZL BK689 hb
   have n3_ := ZL BK690 hb
   have n4_ := Aside0.mk (below_step ZB hb)
   clear BK689
   clear BK690
   clear HB
   have HO696 := n0_
   have HO699 := n1_
   have BK689 := n2_
   have BK690 := n3_
   have HB := n4_
   clear n0_ n1_ n2_ n3_ n4_
   (try clear hb)
   (try clear hb2)
   (try clear hk)
   (try clear hi)
   (try clear ho0)
   (try clear ho1)
   refine hK.out _ _ ⟨(blk_cell BK689.out 0).trans rfl, (blk_cell BK689.out 1).trans rfl, (blk_cell BK689.out 2).trans rfl, (blk_cell BK690.out 0).trans rfl, (blk_cell BK690.out 1).trans rfl, (blk_cell BK690.out 2).trans rfl⟩ (fun hHeld => ?_)
   clear hK K
   refine norm_ (a' := ?_) ?_ ?_
   rotate_left
   ·show Act.put _ (some 31) _ = _
    simp only [Act.put, List.setIfInBounds_toArray, List.set_cons_zero, List.set_cons_succ, i64_w, i32_w]
    rfl
   refine one_ (i := 3) (N := some 33) #[true, true, true, true, true, false, false, false, false, false, false] rfl rfl (one_of HT_.out (by kernel_rfl)) (by decide) (fun K hK => ?_)
   refine goes_ Try.func16 (by kernel_rfl) rfl #[.agg #[.int .i64 a1_0, .slice A1_1 l1_1.length c1_1, .slice A1_2 l1_2.length c1_2]] (by rfl) rfl rfl ZA ?_
   with_reducible refine (laws_toJacobi.calls k a1_0 _ _ l1_1 _ _ l1_2 t700 t701 t704 _ ?side1 ?side2 ?side3 ?side4 A21.out).mono ?_
   (case side1 => exact ZC HR1_1)
   (case side2 => exact HC1_1.out)
   (case side3 => exact ZC HR1_2)
   (case side4 => exact HC1_2.out)
   rintro e w36 ⟨v702, v705, rfl, ho0, ho1, hb⟩
   refine ⟨_, rfl, ?_⟩
   have n0_ := Aside0.mk (Kd.R_mono (Kd.R_told (Kd.R_told (Kd.R_old (ZR HO696) hb) (Kd.R_base ho0)) (Kd.R_base ho1)) (fun _ h_ => h_.1))
   have n1_ := Aside0.mk (Kd.R_mono (Kd.R_told (Kd.R_told (Kd.R_old (ZR HO699) hb) (Kd.R_base ho0)) (Kd.R_base ho1)) (fun _ h_ => h_.1))
   have n2_ := Aside0.mk (Kd.R_lower (Kd.R_new' (Kd.R_new' ho0 (Kd.R_lt (ZR HO696))) (Kd.R_lt (ZR HO699))) (below_size ZB))
   have n3_ := Aside0.mk (Kd.R_lower (Kd.R_new' (Kd.R_new' ho1 (Kd.R_lt (ZR HO696))) (Kd.R_lt (ZR HO699))) (below_size ZB))
   have n4_ := ZL BK689 hb
   have n5_ := ZL BK690 hb
   have n6_ := Aside0.mk (below_step ZB hb)
   clear HO696
   clear HO699
   clear BK689
   clear BK690
   clear HB
   have HO696 := n0_
   have HO699 := n1_
   have HO703 := n2_
   have HO706 := n3_
   have BK689 := n4_
   have BK690 := n5_
   have HB := n6_
   clear n0_ n1_ n2_ n3_ n4_ n5_ n6_
   (try clear hb)
   (try clear hb2)
   (try clear hk)
   (try clear hi)
   (try clear ho0)
   (try clear ho1)
   obtain ⟨Ao37, co37, eo37⟩ := Kd.R_slice HO696.out
   (first | subst eo37 | (injection eo37 with f1_ f2_ f3_; have f4_ := f1_.symm; have f5_ := f3_.symm; clear f1_ f2_ f3_; subst f4_; subst f5_))
   obtain ⟨Ao38, co38, eo38⟩ := Kd.R_slice HO699.out
   (first | subst eo38 | (injection eo38 with f1_ f2_ f3_; have f4_ := f1_.symm; have f5_ := f3_.symm; clear f1_ f2_ f3_; subst f4_; subst f5_))
   obtain ⟨Ao39, co39, eo39⟩ := Kd.R_slice HO703.out
   (first | subst eo39 | (injection eo39 with f1_ f2_ f3_; have f4_ := f1_.symm; have f5_ := f3_.symm; clear f1_ f2_ f3_; subst f4_; subst f5_))
   obtain ⟨Ao40, co40, eo40⟩ := Kd.R_slice HO706.out
   (first | subst eo40 | (injection eo40 with f1_ f2_ f3_; have f4_ := f1_.symm; have f5_ := f3_.symm; clear f1_ f2_ f3_; subst f4_; subst f5_))
   refine hK.out _ _ ⟨(blk_cell BK689.out 0).trans rfl, (blk_cell BK689.out 1).trans rfl, (blk_cell BK689.out 2).trans rfl, (blk_cell BK690.out 0).trans rfl, (blk_cell BK690.out 1).trans rfl, (blk_cell BK690.out 2).trans rfl⟩ (fun hHeld => ?_)
   clear hK K
   refine norm_ (a' := ?_) ?_ ?_
   rotate_left
   ·show Act.put _ (some 33) _ = _
    simp only [Act.put, List.setIfInBounds_toArray, List.set_cons_zero, List.set_cons_succ, i64_w, i32_w]
    rfl
   refine one_ (i := 5) (N := some 35) #[true, true, true, true, true, true, false, false, false, false, false] rfl rfl (one_of HT_.out (by kernel_rfl)) (by decide) (fun K hK => ?_)
   refine goes_ Try.func32 (by kernel_rfl) rfl #[.agg #[.int .i64 t693, .slice Ao37 t694.length co37, .slice Ao38 t697.length co38], .agg #[.int .i64 t700, .slice Ao39 t701.length co39, .slice Ao40 t704.length co40], .int .i64 a2] (by rfl) rfl rfl ZA ?_
   with_reducible refine (spec_ConnectJacobi.calls k t693 _ _ t694 _ _ t697 t700 _ _ t701 _ _ t704 a2 t707 t710 _ ?side1 ?side2 ?side3 ?side4 ?side5 ?side6 ?side7 ?side8 A22.out).mono ?_
   (case side1 => repeat (first | exact (Kd.R_reads' HO696.out).2.2 | (with_reducible refine Kd.C_alloc ?_ _) | (with_reducible refine Kd.C_drewN ?_ _) | (with_reducible refine Kd.C_drew ?_)))
   (case side2 => exact (Kd.R_reads' HO696.out).2.1)
   (case side3 => repeat (first | exact (Kd.R_reads' HO699.out).2.2 | (with_reducible refine Kd.C_alloc ?_ _) | (with_reducible refine Kd.C_drewN ?_ _) | (with_reducible refine Kd.C_drew ?_)))
   (case side4 => exact (Kd.R_reads' HO699.out).2.1)
   (case side5 => repeat (first | exact (Kd.R_reads' HO703.out).2.2 | (with_reducible refine Kd.C_alloc ?_ _) | (with_reducible refine Kd.C_drewN ?_ _) | (with_reducible refine Kd.C_drew ?_)))
   (case side6 => exact (Kd.R_reads' HO703.out).2.1)
   (case side7 => repeat (first | exact (Kd.R_reads' HO706.out).2.2 | (with_reducible refine Kd.C_alloc ?_ _) | (with_reducible refine Kd.C_drewN ?_ _) | (with_reducible refine Kd.C_drew ?_)))
   (case side8 => exact (Kd.R_reads' HO706.out).2.1)
   rintro e w41 ⟨v708, rfl, ho0, hb⟩
   refine ⟨_, rfl, ?_⟩
   have n0_ := Aside0.mk (Kd.R_elder' (ZR HO696) (Kd.R_base ho0) hb)
   have n1_ := Aside0.mk (Kd.R_elder' (ZR HO699) (Kd.R_base ho0) hb)
   have n2_ := Aside0.mk (Kd.R_elder' (ZR HO703) (Kd.R_base ho0) hb)
   have n3_ := Aside0.mk (Kd.R_elder' (ZR HO706) (Kd.R_base ho0) hb)
   have n4_ := Aside0.mk (Kd.R_lower (Kd.R_new' (Kd.R_new' (Kd.R_new' (Kd.R_new' ho0 (Kd.R_lt (ZR HO696))) (Kd.R_lt (ZR HO699))) (Kd.R_lt (ZR HO703))) (Kd.R_lt (ZR HO706))) (below_size ZB))
   have n5_ := ZL BK689 hb
   have n6_ := ZL BK690 hb
   have n7_ := Aside0.mk (below_step ZB hb)
   clear HO696
   clear HO699
   clear HO703
   clear HO706
   clear BK689
   clear BK690
   clear HB
   have HO696 := n0_
   have HO699 := n1_
   have HO703 := n2_
   have HO706 := n3_
   have HO709 := n4_
   have BK689 := n5_
   have BK690 := n6_
   have HB := n7_
   clear n0_ n1_ n2_ n3_ n4_ n5_ n6_ n7_
   (try clear hb)
   (try clear hb2)
   (try clear hk)
   (try clear hi)
   (try clear ho0)
   refine hK.out _ _ ⟨(blk_cell BK689.out 0).trans rfl, (blk_cell BK689.out 1).trans rfl, (blk_cell BK689.out 2).trans rfl, (blk_cell BK690.out 0).trans rfl, (blk_cell BK690.out 1).trans rfl, (blk_cell BK690.out 2).trans rfl⟩ (fun hHeld => ?_)
   clear hK K
   refine norm_ (a' := ?_) ?_ ?_
   rotate_left
   ·show Act.put _ (some 35) _ = _
    simp only [Act.put, List.setIfInBounds_toArray, List.set_cons_zero, List.set_cons_succ, i64_w, i32_w]
    rfl
   refine Zpt 6 (some 29) (h := ?_)
   refine Zpt 7 (some 36) (h := ?_)
   refine Zpt 8 (some 37) (h := ?_)
   refine Zpt 9 (some 8) (h := ?_)
   refine Zpt 10 (some 9) (h := ?_)
   refine done_ (done_of HT_.out (by kernel_rfl)) ?_
   obtain ⟨hcz42_0, hcz42_1, hcz42_2, hfz42_0, hfz42_1, hfz42_2⟩ := ZD3 BK689
   go_upto_region 12 with (first | ((with_reducible refine gate_callee (f := 16) rfl ?_); refine goesL_ (some 39) rfl rfl Try.func16 (by kernel_rfl) rfl #[.agg #[.int .i64 a0_0, .slice A0_1 l0_1.length c0_1, .slice A0_2 l0_2.length c0_2]] rfl ZA ?_; (with_reducible refine (laws_toJacobi.calls k a0_0 _ _ l0_1 _ _ l0_2 t711 t712 t715 _ ?side1 ?side2 ?side3 ?side4 A23.out).mono ?_); (case side1 => exact ZC HR0_1); (case side2 => exact HC0_1.out); (case side3 => exact ZC HR0_2); (case side4 => exact HC0_2.out); rintro e w43 ⟨v713, v716, rfl, ho0, ho1, hb⟩; refine ⟨_, rfl, ?_⟩; have n0_ := Aside0.mk (Kd.R_mono (Kd.R_told (Kd.R_told (Kd.R_old (ZR HO696) hb) (Kd.R_base ho0)) (Kd.R_base ho1)) (fun _ h_ => h_.1)); have n1_ := Aside0.mk (Kd.R_mono (Kd.R_told (Kd.R_told (Kd.R_old (ZR HO699) hb) (Kd.R_base ho0)) (Kd.R_base ho1)) (fun _ h_ => h_.1)); have n2_ := Aside0.mk (Kd.R_mono (Kd.R_told (Kd.R_told (Kd.R_old (ZR HO703) hb) (Kd.R_base ho0)) (Kd.R_base ho1)) (fun _ h_ => h_.1)); have n3_ := Aside0.mk (Kd.R_mono (Kd.R_told (Kd.R_told (Kd.R_old (ZR HO706) hb) (Kd.R_base ho0)) (Kd.R_base ho1)) (fun _ h_ => h_.1)); have n4_ := Aside0.mk (Kd.R_mono (Kd.R_told (Kd.R_told (Kd.R_old (ZR HO709) hb) (Kd.R_base ho0)) (Kd.R_base ho1)) (fun _ h_ => h_.1)); have n5_ := Aside0.mk (Kd.R_lower (Kd.R_new' (Kd.R_new' (Kd.R_new' (Kd.R_new' (Kd.R_new' ho0 (Kd.R_lt (ZR HO696))) (Kd.R_lt (ZR HO699))) (Kd.R_lt (ZR HO703))) (Kd.R_lt (ZR HO706))) (Kd.R_lt (ZR HO709))) (below_size ZB)); have n6_ := Aside0.mk (Kd.R_lower (Kd.R_new' (Kd.R_new' (Kd.R_new' (Kd.R_new' (Kd.R_new' ho1 (Kd.R_lt (ZR HO696))) (Kd.R_lt (ZR HO699))) (Kd.R_lt (ZR HO703))) (Kd.R_lt (ZR HO706))) (Kd.R_lt (ZR HO709))) (below_size ZB)); have n7_ := ZL BK689 hb; have n8_ := ZL BK690 hb; have n9_ := Aside0.mk (below_step ZB hb); clear HO696; clear HO699; clear HO703; clear HO706; clear HO709; clear BK689; clear BK690; clear HB; have HO696 := n0_; have HO699 := n1_; have HO703 := n2_; have HO706 := n3_; have HO709 := n4_; have HO714 := n5_; have HO717 := n6_; have BK689 := n7_; have BK690 := n8_; have HB := n9_; clear n0_ n1_ n2_ n3_ n4_ n5_ n6_ n7_ n8_ n9_; (try clear hb); (try clear hb2); (try clear hk); (try clear hi); (try clear ho0); (try clear ho1)) | ((with_reducible refine gate_dst (N := 10) rfl ?_); refine box_event ?hg (N := 10) ?hd (cs := #[.int .i64 0, .slice none 0 0, .slice none 0 0]) (t := 29) ?hr ?_; (case hd => rfl); (case hg => rfl); (case hr => first | (go_simp; done) | (go_simp; rfl)); intro gb718 hg w44 hbox hb; have n0_ := Aside0.mk (Kd.R_below (ZR HO696) hb); have n1_ := Aside0.mk (Kd.R_below (ZR HO699) hb); have n2_ := Aside0.mk (Kd.R_below (ZR HO703) hb); have n3_ := Aside0.mk (Kd.R_below (ZR HO706) hb); have n4_ := Aside0.mk (Kd.R_below (ZR HO709) hb); have n5_ := Aside0.mk (Kd.R_below (ZR HO714) hb); have n6_ := Aside0.mk (Kd.R_below (ZR HO717) hb); have n7_ := ZL BK689 hb; have n8_ := ZL BK690 hb; have n9_ := Aside0.mk (below_step ZB hb); have n10_ := Aside0.mk (hbox); have n11_ := Aside0.mk ((ZG hg : w.heap.size ≤ gb718)); have n12_ := Aside0.mk ((ZG hg : w.heap.size ≤ gb718)); have n13_ := Aside0.mk ((ZN hg BK689 : gb689 ≠ gb718)); have n14_ := Aside0.mk ((ZM hg BK689 : gb718 ≠ gb689)); have n15_ := Aside0.mk ((ZN hg BK690 : gb690 ≠ gb718)); have n16_ := Aside0.mk ((ZM hg BK690 : gb718 ≠ gb690)); clear HO696; clear HO699; clear HO703; clear HO706; clear HO709; clear HO714; clear HO717; clear BK689; clear BK690; clear HB; have HO696 := n0_; have HO699 := n1_; have HO703 := n2_; have HO706 := n3_; have HO709 := n4_; have HO714 := n5_; have HO717 := n6_; have BK689 := n7_; have BK690 := n8_; have HB := n9_; have BK718 := n10_; have GW718 := n11_; have GE718 := n12_; have NB689_718 := n13_; have NB718_689 := n14_; have NB690_718 := n15_; have NB718_690 := n16_; clear n0_ n1_ n2_ n3_ n4_ n5_ n6_ n7_ n8_ n9_ n10_ n11_ n12_ n13_ n14_ n15_ n16_; clear hb hbox hg; have hnb45 := NB718_689.out; have hnc45 := NB689_718.out; have hnb46 := NB718_690.out; have hnc46 := NB690_718.out; obtain ⟨hcz47_0, hcz47_1, hcz47_2, hfz47_0, hfz47_1, hfz47_2⟩ := ZD3 BK718; obtain ⟨Ao48, co48, eo48⟩ := Kd.R_slice HO714.out; subst eo48; obtain ⟨Ao49, co49, eo49⟩ := Kd.R_slice HO717.out; subst eo49; obtain ⟨hcz50_0, hcz50_1, hcz50_2, hfz50_0, hfz50_1, hfz50_2⟩ := ZD3 BK690) | ((with_reducible refine gate_callee (f := 16) rfl ?_); refine goesL_ (some 41) rfl rfl Try.func16 (by kernel_rfl) rfl #[.agg #[.int .i64 a1_0, .slice A1_1 l1_1.length c1_1, .slice A1_2 l1_2.length c1_2]] rfl ZA ?_; (with_reducible refine (laws_toJacobi.calls k a1_0 _ _ l1_1 _ _ l1_2 t719 t720 t723 _ ?side1 ?side2 ?side3 ?side4 A24.out).mono ?_); (case side1 => exact Kd.C_below HR1_1.out ZB); (case side2 => exact HC1_1.out); (case side3 => exact Kd.C_below HR1_2.out ZB); (case side4 => exact HC1_2.out); rintro e w51 ⟨v721, v724, rfl, ho0, ho1, hb⟩; refine ⟨_, rfl, ?_⟩; have n0_ := Aside0.mk (Kd.R_mono (Kd.R_told (Kd.R_told (Kd.R_old (ZQ (ZF3 HO696 BK718 (.int .i64 t711) (.slice Ao48 t712.length co48) (.slice Ao49 t715.length co49))) hb) (Kd.R_base ho0)) (Kd.R_base ho1)) (fun _ h_ => h_.1)); have n1_ := Aside0.mk (Kd.R_mono (Kd.R_told (Kd.R_told (Kd.R_old (ZQ (ZF3 HO699 BK718 (.int .i64 t711) (.slice Ao48 t712.length co48) (.slice Ao49 t715.length co49))) hb) (Kd.R_base ho0)) (Kd.R_base ho1)) (fun _ h_ => h_.1)); have n2_ := Aside0.mk (Kd.R_mono (Kd.R_told (Kd.R_told (Kd.R_old (ZQ (ZF3 HO703 BK718 (.int .i64 t711) (.slice Ao48 t712.length co48) (.slice Ao49 t715.length co49))) hb) (Kd.R_base ho0)) (Kd.R_base ho1)) (fun _ h_ => h_.1)); have n3_ := Aside0.mk (Kd.R_mono (Kd.R_told (Kd.R_told (Kd.R_old (ZQ (ZF3 HO706 BK718 (.int .i64 t711) (.slice Ao48 t712.length co48) (.slice Ao49 t715.length co49))) hb) (Kd.R_base ho0)) (Kd.R_base ho1)) (fun _ h_ => h_.1)); have n4_ := Aside0.mk (Kd.R_mono (Kd.R_told (Kd.R_told (Kd.R_old (ZQ (ZF3 HO709 BK718 (.int .i64 t711) (.slice Ao48 t712.length co48) (.slice Ao49 t715.length co49))) hb) (Kd.R_base ho0)) (Kd.R_base ho1)) (fun _ h_ => h_.1)); have n5_ := Aside0.mk (Kd.R_mono (Kd.R_told (Kd.R_told (Kd.R_old (ZQ (ZF3 HO714 BK718 (.int .i64 t711) (.slice Ao48 t712.length co48) (.slice Ao49 t715.length co49))) hb) (Kd.R_base ho0)) (Kd.R_base ho1)) (fun _ h_ => h_.1)); have n6_ := Aside0.mk (Kd.R_mono (Kd.R_told (Kd.R_told (Kd.R_old (ZQ (ZF3 HO717 BK718 (.int .i64 t711) (.slice Ao48 t712.length co48) (.slice Ao49 t715.length co49))) hb) (Kd.R_base ho0)) (Kd.R_base ho1)) (fun _ h_ => h_.1)); have n7_ := Aside0.mk (Kd.R_lower (Kd.R_new' (Kd.R_new' (Kd.R_new' (Kd.R_new' (Kd.R_new' (Kd.R_new' (Kd.R_new' ho0 (Kd.R_lt (ZQ (ZF3 HO696 BK718 (.int .i64 t711) (.slice Ao48 t712.length co48) (.slice Ao49 t715.length co49))))) (Kd.R_lt (ZQ (ZF3 HO699 BK718 (.int .i64 t711) (.slice Ao48 t712.length co48) (.slice Ao49 t715.length co49))))) (Kd.R_lt (ZQ (ZF3 HO703 BK718 (.int .i64 t711) (.slice Ao48 t712.length co48) (.slice Ao49 t715.length co49))))) (Kd.R_lt (ZQ (ZF3 HO706 BK718 (.int .i64 t711) (.slice Ao48 t712.length co48) (.slice Ao49 t715.length co49))))) (Kd.R_lt (ZQ (ZF3 HO709 BK718 (.int .i64 t711) (.slice Ao48 t712.length co48) (.slice Ao49 t715.length co49))))) (Kd.R_lt (ZQ (ZF3 HO714 BK718 (.int .i64 t711) (.slice Ao48 t712.length co48) (.slice Ao49 t715.length co49))))) (Kd.R_lt (ZQ (ZF3 HO717 BK718 (.int .i64 t711) (.slice Ao48 t712.length co48) (.slice Ao49 t715.length co49))))) (below_size ZB)); have n8_ := Aside0.mk (Kd.R_lower (Kd.R_new' (Kd.R_new' (Kd.R_new' (Kd.R_new' (Kd.R_new' (Kd.R_new' (Kd.R_new' ho1 (Kd.R_lt (ZQ (ZF3 HO696 BK718 (.int .i64 t711) (.slice Ao48 t712.length co48) (.slice Ao49 t715.length co49))))) (Kd.R_lt (ZQ (ZF3 HO699 BK718 (.int .i64 t711) (.slice Ao48 t712.length co48) (.slice Ao49 t715.length co49))))) (Kd.R_lt (ZQ (ZF3 HO703 BK718 (.int .i64 t711) (.slice Ao48 t712.length co48) (.slice Ao49 t715.length co49))))) (Kd.R_lt (ZQ (ZF3 HO706 BK718 (.int .i64 t711) (.slice Ao48 t712.length co48) (.slice Ao49 t715.length co49))))) (Kd.R_lt (ZQ (ZF3 HO709 BK718 (.int .i64 t711) (.slice Ao48 t712.length co48) (.slice Ao49 t715.length co49))))) (Kd.R_lt (ZQ (ZF3 HO714 BK718 (.int .i64 t711) (.slice Ao48 t712.length co48) (.slice Ao49 t715.length co49))))) (Kd.R_lt (ZQ (ZF3 HO717 BK718 (.int .i64 t711) (.slice Ao48 t712.length co48) (.slice Ao49 t715.length co49))))) (below_size ZB)); have n9_ := Aside0.mk (blk_below (g := gb689) (o := .cells #[.int .i64 a0_0, .slice A0_1 l0_1.length c0_1, .slice A0_2 l0_2.length c0_2] 24 (0, 0)) (by refine ZS ?_; refine blk_far ?_ NB689_718.out _; refine ZS ?_; refine blk_far ?_ NB689_718.out _; refine ZS ?_; refine blk_far ?_ NB689_718.out _; refine ZS ?_; exact BK689.out) hb); have n10_ := Aside0.mk (blk_below (g := gb690) (o := .cells #[.int .i64 a1_0, .slice A1_1 l1_1.length c1_1, .slice A1_2 l1_2.length c1_2] 24 (0, 0)) (by refine ZS ?_; refine blk_far ?_ NB690_718.out _; refine ZS ?_; refine blk_far ?_ NB690_718.out _; refine ZS ?_; refine blk_far ?_ NB690_718.out _; refine ZS ?_; exact BK690.out) hb); have n11_ := Aside0.mk (blk_below (g := gb718) (o := .cells #[.int .i64 t711, .slice Ao48 t712.length co48, .slice Ao49 t715.length co49] 29 (0, 0)) (by refine ZS ?_; refine blk_put (cs := #[.int .i64 t711, .slice Ao48 t712.length co48, .slice none 0 0]) ?_ 2 _ rfl; refine ZS ?_; refine blk_put (cs := #[.int .i64 t711, .slice none 0 0, .slice none 0 0]) ?_ 1 _ rfl; refine ZS ?_; refine blk_put (cs := #[.int .i64 0, .slice none 0 0, .slice none 0 0]) ?_ 0 _ rfl; refine ZS ?_; exact BK718.out) hb); have n12_ := Aside0.mk (below_step ZB hb); clear HO696; clear HO699; clear HO703; clear HO706; clear HO709; clear HO714; clear HO717; clear BK689; clear BK690; clear BK718; clear HB; have HO696 := n0_; have HO699 := n1_; have HO703 := n2_; have HO706 := n3_; have HO709 := n4_; have HO714 := n5_; have HO717 := n6_; have HO722 := n7_; have HO725 := n8_; have BK689 := n9_; have BK690 := n10_; have BK718 := n11_; have HB := n12_; clear n0_ n1_ n2_ n3_ n4_ n5_ n6_ n7_ n8_ n9_ n10_ n11_ n12_; (try clear hb); (try clear hb2); (try clear hk); (try clear hi); (try clear ho0); (try clear ho1)) | ((with_reducible refine gate_dst (N := 11) rfl ?_); refine box_event ?hg (N := 11) ?hd (cs := #[.int .i64 0, .slice none 0 0, .slice none 0 0]) (t := 29) ?hr ?_; (case hd => rfl); (case hg => rfl); (case hr => first | (go_simp; done) | (go_simp; rfl)); intro gb726 hg w52 hbox hb; have n0_ := Aside0.mk (Kd.R_below (ZR HO696) hb); have n1_ := Aside0.mk (Kd.R_below (ZR HO699) hb); have n2_ := Aside0.mk (Kd.R_below (ZR HO703) hb); have n3_ := Aside0.mk (Kd.R_below (ZR HO706) hb); have n4_ := Aside0.mk (Kd.R_below (ZR HO709) hb); have n5_ := Aside0.mk (Kd.R_below (ZR HO714) hb); have n6_ := Aside0.mk (Kd.R_below (ZR HO717) hb); have n7_ := Aside0.mk (Kd.R_below (ZR HO722) hb); have n8_ := Aside0.mk (Kd.R_below (ZR HO725) hb); have n9_ := ZL BK689 hb; have n10_ := ZL BK690 hb; have n11_ := ZL BK718 hb; have n12_ := Aside0.mk (below_step ZB hb); have n13_ := Aside0.mk (hbox); have n14_ := Aside0.mk ((ZG hg : w.heap.size ≤ gb726)); have n15_ := Aside0.mk ((ZG hg : w.heap.size ≤ gb726)); have n16_ := Aside0.mk ((ZN hg BK689 : gb689 ≠ gb726)); have n17_ := Aside0.mk ((ZM hg BK689 : gb726 ≠ gb689)); have n18_ := Aside0.mk ((ZN hg BK690 : gb690 ≠ gb726)); have n19_ := Aside0.mk ((ZM hg BK690 : gb726 ≠ gb690)); have n20_ := Aside0.mk ((ZN hg BK718 : gb718 ≠ gb726)); have n21_ := Aside0.mk ((ZM hg BK718 : gb726 ≠ gb718)); clear HO696; clear HO699; clear HO703; clear HO706; clear HO709; clear HO714; clear HO717; clear HO722; clear HO725; clear BK689; clear BK690; clear BK718; clear HB; have HO696 := n0_; have HO699 := n1_; have HO703 := n2_; have HO706 := n3_; have HO709 := n4_; have HO714 := n5_; have HO717 := n6_; have HO722 := n7_; have HO725 := n8_; have BK689 := n9_; have BK690 := n10_; have BK718 := n11_; have HB := n12_; have BK726 := n13_; have GW726 := n14_; have GE726 := n15_; have NB689_726 := n16_; have NB726_689 := n17_; have NB690_726 := n18_; have NB726_690 := n19_; have NB718_726 := n20_; have NB726_718 := n21_; clear n0_ n1_ n2_ n3_ n4_ n5_ n6_ n7_ n8_ n9_ n10_ n11_ n12_ n13_ n14_ n15_ n16_ n17_ n18_ n19_ n20_ n21_; clear hb hbox hg; have hnb53 := NB726_689.out; have hnc53 := NB689_726.out; have hnb54 := NB726_690.out; have hnc54 := NB690_726.out; have hnb55 := NB726_718.out; have hnc55 := NB718_726.out; obtain ⟨hcz56_0, hcz56_1, hcz56_2, hfz56_0, hfz56_1, hfz56_2⟩ := ZD3 BK726; obtain ⟨Ao57, co57, eo57⟩ := Kd.R_slice HO722.out; subst eo57; obtain ⟨Ao58, co58, eo58⟩ := Kd.R_slice HO725.out; subst eo58; obtain ⟨hcz59_0, hcz59_1, hcz59_2, hfz59_0, hfz59_1, hfz59_2⟩ := ZD3 BK718) | ((with_reducible refine gate_callee (f := 33) rfl ?_); refine goesL_ (some 46) rfl rfl Try.func33 (by kernel_rfl) rfl #[.agg #[.int .i64 t711, .slice Ao48 t712.length co48, .slice Ao49 t715.length co49], .agg #[.int .i64 t719, .slice Ao57 t720.length co57, .slice Ao58 t723.length co58], .int .i64 a2] rfl ZA ?_; (with_reducible refine (impl_ConnectJacobi.calls k t711 _ _ t712 _ _ t715 t719 _ _ t720 _ _ t723 a2 t727 t730 _ ?side1 ?side2 ?side3 ?side4 ?side5 ?side6 ?side7 ?side8 A25.out).mono ?_); (case side1 => refine (Kd.R_reads' (e := 2) (base := w.heap.size) (ok := fun k_ => (((((((some k_ ≠ (.slice Ao49 t715.length co49 : Value).ownBlock ∧ some k_ ≠ (.slice Ao37 t694.length co37 : Value).ownBlock) ∧ some k_ ≠ (.slice Ao38 t697.length co38 : Value).ownBlock) ∧ some k_ ≠ (.slice Ao39 t701.length co39 : Value).ownBlock) ∧ some k_ ≠ (.slice Ao40 t704.length co40 : Value).ownBlock) ∧ some k_ ≠ (v708 : Value).ownBlock) ∧ some k_ ≠ (.slice Ao57 t720.length co57 : Value).ownBlock) ∧ some k_ ≠ (.slice Ao58 t723.length co58 : Value).ownBlock)) (n := t712.length) (c := co48) ?_).2.2; exact (ZQ (ZF3 HO714 BK726 (.int .i64 t719) (.slice Ao57 t720.length co57) (.slice Ao58 t723.length co58)))); (case side2 => exact (Kd.R_reads' HO714.out).2.1); (case side3 => refine (Kd.R_reads' (e := 2) (base := w.heap.size) (ok := fun k_ => (((((((some k_ ≠ (.slice Ao48 t712.length co48 : Value).ownBlock ∧ some k_ ≠ (.slice Ao37 t694.length co37 : Value).ownBlock) ∧ some k_ ≠ (.slice Ao38 t697.length co38 : Value).ownBlock) ∧ some k_ ≠ (.slice Ao39 t701.length co39 : Value).ownBlock) ∧ some k_ ≠ (.slice Ao40 t704.length co40 : Value).ownBlock) ∧ some k_ ≠ (v708 : Value).ownBlock) ∧ some k_ ≠ (.slice Ao57 t720.length co57 : Value).ownBlock) ∧ some k_ ≠ (.slice Ao58 t723.length co58 : Value).ownBlock)) (n := t715.length) (c := co49) ?_).2.2; exact (ZQ (ZF3 HO717 BK726 (.int .i64 t719) (.slice Ao57 t720.length co57) (.slice Ao58 t723.length co58)))); (case side4 => exact (Kd.R_reads' HO717.out).2.1); (case side5 => refine (Kd.R_reads' (e := 2) (base := w.heap.size) (ok := fun k_ => (((((((some k_ ≠ (.slice Ao58 t723.length co58 : Value).ownBlock ∧ some k_ ≠ (.slice Ao37 t694.length co37 : Value).ownBlock) ∧ some k_ ≠ (.slice Ao38 t697.length co38 : Value).ownBlock) ∧ some k_ ≠ (.slice Ao39 t701.length co39 : Value).ownBlock) ∧ some k_ ≠ (.slice Ao40 t704.length co40 : Value).ownBlock) ∧ some k_ ≠ (v708 : Value).ownBlock) ∧ some k_ ≠ (.slice Ao48 t712.length co48 : Value).ownBlock) ∧ some k_ ≠ (.slice Ao49 t715.length co49 : Value).ownBlock)) (n := t720.length) (c := co57) ?_).2.2; exact (ZQ (ZF3 HO722 BK726 (.int .i64 t719) (.slice Ao57 t720.length co57) (.slice Ao58 t723.length co58)))); (case side6 => exact (Kd.R_reads' HO722.out).2.1); (case side7 => refine (Kd.R_reads' (e := 2) (base := w.heap.size) (ok := fun k_ => (((((((some k_ ≠ (.slice Ao57 t720.length co57 : Value).ownBlock ∧ some k_ ≠ (.slice Ao37 t694.length co37 : Value).ownBlock) ∧ some k_ ≠ (.slice Ao38 t697.length co38 : Value).ownBlock) ∧ some k_ ≠ (.slice Ao39 t701.length co39 : Value).ownBlock) ∧ some k_ ≠ (.slice Ao40 t704.length co40 : Value).ownBlock) ∧ some k_ ≠ (v708 : Value).ownBlock) ∧ some k_ ≠ (.slice Ao48 t712.length co48 : Value).ownBlock) ∧ some k_ ≠ (.slice Ao49 t715.length co49 : Value).ownBlock)) (n := t723.length) (c := co58) ?_).2.2; exact (ZQ (ZF3 HO725 BK726 (.int .i64 t719) (.slice Ao57 t720.length co57) (.slice Ao58 t723.length co58)))); (case side8 => exact (Kd.R_reads' HO725.out).2.1); rintro e w60 ⟨v728, rfl, ho0, hb⟩; refine ⟨_, rfl, ?_⟩; have n0_ := Aside0.mk (Kd.R_elder' (ZQ (ZF3 HO696 BK726 (.int .i64 t719) (.slice Ao57 t720.length co57) (.slice Ao58 t723.length co58))) (Kd.R_base ho0) hb); have n1_ := Aside0.mk (Kd.R_elder' (ZQ (ZF3 HO699 BK726 (.int .i64 t719) (.slice Ao57 t720.length co57) (.slice Ao58 t723.length co58))) (Kd.R_base ho0) hb); have n2_ := Aside0.mk (Kd.R_elder' (ZQ (ZF3 HO703 BK726 (.int .i64 t719) (.slice Ao57 t720.length co57) (.slice Ao58 t723.length co58))) (Kd.R_base ho0) hb); have n3_ := Aside0.mk (Kd.R_elder' (ZQ (ZF3 HO706 BK726 (.int .i64 t719) (.slice Ao57 t720.length co57) (.slice Ao58 t723.length co58))) (Kd.R_base ho0) hb); have n4_ := Aside0.mk (Kd.R_elder' (ZQ (ZF3 HO709 BK726 (.int .i64 t719) (.slice Ao57 t720.length co57) (.slice Ao58 t723.length co58))) (Kd.R_base ho0) hb); have n5_ := Aside0.mk (Kd.R_elder' (ZQ (ZF3 HO714 BK726 (.int .i64 t719) (.slice Ao57 t720.length co57) (.slice Ao58 t723.length co58))) (Kd.R_base ho0) hb); have n6_ := Aside0.mk (Kd.R_elder' (ZQ (ZF3 HO717 BK726 (.int .i64 t719) (.slice Ao57 t720.length co57) (.slice Ao58 t723.length co58))) (Kd.R_base ho0) hb); have n7_ := Aside0.mk (Kd.R_elder' (ZQ (ZF3 HO722 BK726 (.int .i64 t719) (.slice Ao57 t720.length co57) (.slice Ao58 t723.length co58))) (Kd.R_base ho0) hb); have n8_ := Aside0.mk (Kd.R_elder' (ZQ (ZF3 HO725 BK726 (.int .i64 t719) (.slice Ao57 t720.length co57) (.slice Ao58 t723.length co58))) (Kd.R_base ho0) hb); have n9_ := Aside0.mk (Kd.R_lower (Kd.R_new' (Kd.R_new' (Kd.R_new' (Kd.R_new' (Kd.R_new' (Kd.R_new' (Kd.R_new' (Kd.R_new' (Kd.R_new' ho0 (Kd.R_lt (ZQ (ZF3 HO696 BK726 (.int .i64 t719) (.slice Ao57 t720.length co57) (.slice Ao58 t723.length co58))))) (Kd.R_lt (ZQ (ZF3 HO699 BK726 (.int .i64 t719) (.slice Ao57 t720.length co57) (.slice Ao58 t723.length co58))))) (Kd.R_lt (ZQ (ZF3 HO703 BK726 (.int .i64 t719) (.slice Ao57 t720.length co57) (.slice Ao58 t723.length co58))))) (Kd.R_lt (ZQ (ZF3 HO706 BK726 (.int .i64 t719) (.slice Ao57 t720.length co57) (.slice Ao58 t723.length co58))))) (Kd.R_lt (ZQ (ZF3 HO709 BK726 (.int .i64 t719) (.slice Ao57 t720.length co57) (.slice Ao58 t723.length co58))))) (Kd.R_lt (ZQ (ZF3 HO714 BK726 (.int .i64 t719) (.slice Ao57 t720.length co57) (.slice Ao58 t723.length co58))))) (Kd.R_lt (ZQ (ZF3 HO717 BK726 (.int .i64 t719) (.slice Ao57 t720.length co57) (.slice Ao58 t723.length co58))))) (Kd.R_lt (ZQ (ZF3 HO722 BK726 (.int .i64 t719) (.slice Ao57 t720.length co57) (.slice Ao58 t723.length co58))))) (Kd.R_lt (ZQ (ZF3 HO725 BK726 (.int .i64 t719) (.slice Ao57 t720.length co57) (.slice Ao58 t723.length co58))))) (below_size ZB)); have n10_ := Aside0.mk (blk_below (g := gb689) (o := .cells #[.int .i64 a0_0, .slice A0_1 l0_1.length c0_1, .slice A0_2 l0_2.length c0_2] 24 (0, 0)) (by refine ZS ?_; refine blk_far ?_ NB689_726.out _; refine ZS ?_; refine blk_far ?_ NB689_726.out _; refine ZS ?_; refine blk_far ?_ NB689_726.out _; refine ZS ?_; exact BK689.out) hb); have n11_ := Aside0.mk (blk_below (g := gb690) (o := .cells #[.int .i64 a1_0, .slice A1_1 l1_1.length c1_1, .slice A1_2 l1_2.length c1_2] 24 (0, 0)) (by refine ZS ?_; refine blk_far ?_ NB690_726.out _; refine ZS ?_; refine blk_far ?_ NB690_726.out _; refine ZS ?_; refine blk_far ?_ NB690_726.out _; refine ZS ?_; exact BK690.out) hb); have n12_ := Aside0.mk (blk_below (g := gb718) (o := .cells #[.int .i64 t711, .slice Ao48 t712.length co48, .slice Ao49 t715.length co49] 29 (0, 0)) (by refine ZS ?_; refine blk_far ?_ NB718_726.out _; refine ZS ?_; refine blk_far ?_ NB718_726.out _; refine ZS ?_; refine blk_far ?_ NB718_726.out _; refine ZS ?_; exact BK718.out) hb); have n13_ := Aside0.mk (blk_below (g := gb726) (o := .cells #[.int .i64 t719, .slice Ao57 t720.length co57, .slice Ao58 t723.length co58] 29 (0, 0)) (by refine ZS ?_; refine blk_put (cs := #[.int .i64 t719, .slice Ao57 t720.length co57, .slice none 0 0]) ?_ 2 _ rfl; refine ZS ?_; refine blk_put (cs := #[.int .i64 t719, .slice none 0 0, .slice none 0 0]) ?_ 1 _ rfl; refine ZS ?_; refine blk_put (cs := #[.int .i64 0, .slice none 0 0, .slice none 0 0]) ?_ 0 _ rfl; refine ZS ?_; exact BK726.out) hb); have n14_ := Aside0.mk (below_step ZB hb); clear HO696; clear HO699; clear HO703; clear HO706; clear HO709; clear HO714; clear HO717; clear HO722; clear HO725; clear BK689; clear BK690; clear BK718; clear BK726; clear HB; have HO696 := n0_; have HO699 := n1_; have HO703 := n2_; have HO706 := n3_; have HO709 := n4_; have HO714 := n5_; have HO717 := n6_; have HO722 := n7_; have HO725 := n8_; have HO729 := n9_; have BK689 := n10_; have BK690 := n11_; have BK718 := n12_; have BK726 := n13_; have HB := n14_; clear n0_ n1_ n2_ n3_ n4_ n5_ n6_ n7_ n8_ n9_ n10_ n11_ n12_ n13_ n14_; (try clear hb); (try clear hb2); (try clear hk); (try clear hi); (try clear ho0)))
   (try simp only [Act.put, List.setIfInBounds_toArray, List.set_cons_zero, List.set_cons_succ])
   go_cut [57] (fun v57 wc => ∃ (kq : Nat) (x57_25 : Bool), v57 = .bool x57_25 ∧ Aside0 (laws_FnExactConnectJacobi.j0 kq a2 t707 t710 t727 t730 x57_25 a0_0 l0_1 l0_2 a1_0 l1_1 l1_2 t711 t712 t715 t719 t720 t723 = some r) ∧ Aside0 (kq ≤ k) ∧ Aside0 (Kd.R (Kd.int .i64) 2 wc w.heap.size (fun k_ => some k_ ≠ (v728 : Value).ownBlock ∧ some k_ ≠ ((.slice Ao48 t712.length co48) : Value).ownBlock ∧ some k_ ≠ ((.slice Ao49 t715.length co49) : Value).ownBlock ∧ some k_ ≠ ((.slice Ao57 t720.length co57) : Value).ownBlock ∧ some k_ ≠ ((.slice Ao58 t723.length co58) : Value).ownBlock) v708 t707) ∧ Aside0 (Kd.R (Kd.int .i64) 2 wc w.heap.size (fun k_ => some k_ ≠ (v708 : Value).ownBlock ∧ some k_ ≠ ((.slice Ao48 t712.length co48) : Value).ownBlock ∧ some k_ ≠ ((.slice Ao49 t715.length co49) : Value).ownBlock ∧ some k_ ≠ ((.slice Ao57 t720.length co57) : Value).ownBlock ∧ some k_ ≠ ((.slice Ao58 t723.length co58) : Value).ownBlock) v728 t727) ∧ Aside0 (Kd.R (Kd.int .i64) 2 wc w.heap.size (fun k_ => some k_ ≠ (v708 : Value).ownBlock ∧ some k_ ≠ (v728 : Value).ownBlock ∧ some k_ ≠ ((.slice Ao49 t715.length co49) : Value).ownBlock ∧ some k_ ≠ ((.slice Ao57 t720.length co57) : Value).ownBlock ∧ some k_ ≠ ((.slice Ao58 t723.length co58) : Value).ownBlock) (.slice Ao48 t712.length co48) t712) ∧ Aside0 (Kd.R (Kd.int .i64) 2 wc w.heap.size (fun k_ => some k_ ≠ (v708 : Value).ownBlock ∧ some k_ ≠ (v728 : Value).ownBlock ∧ some k_ ≠ ((.slice Ao48 t712.length co48) : Value).ownBlock ∧ some k_ ≠ ((.slice Ao57 t720.length co57) : Value).ownBlock ∧ some k_ ≠ ((.slice Ao58 t723.length co58) : Value).ownBlock) (.slice Ao49 t715.length co49) t715) ∧ Aside0 (Kd.R (Kd.int .i64) 2 wc w.heap.size (fun k_ => some k_ ≠ (v708 : Value).ownBlock ∧ some k_ ≠ (v728 : Value).ownBlock ∧ some k_ ≠ ((.slice Ao48 t712.length co48) : Value).ownBlock ∧ some k_ ≠ ((.slice Ao49 t715.length co49) : Value).ownBlock ∧ some k_ ≠ ((.slice Ao58 t723.length co58) : Value).ownBlock) (.slice Ao57 t720.length co57) t720) ∧ Aside0 (Kd.R (Kd.int .i64) 2 wc w.heap.size (fun k_ => some k_ ≠ (v708 : Value).ownBlock ∧ some k_ ≠ (v728 : Value).ownBlock ∧ some k_ ≠ ((.slice Ao48 t712.length co48) : Value).ownBlock ∧ some k_ ≠ ((.slice Ao49 t715.length co49) : Value).ownBlock ∧ some k_ ≠ ((.slice Ao57 t720.length co57) : Value).ownBlock) (.slice Ao58 t723.length co58) t723) ∧ Aside0 (wc.heap[gb689]? = some (.cells #[.int .i64 a0_0, (.slice A0_1 l0_1.length c0_1), (.slice A0_2 l0_2.length c0_2)] 24 (0, 0))) ∧ Aside0 (wc.heap[gb690]? = some (.cells #[.int .i64 a1_0, (.slice A1_1 l1_1.length c1_1), (.slice A1_2 l1_2.length c1_2)] 24 (0, 0))) ∧ Aside0 (wc.heap[gb718]? = some (.cells #[.int .i64 t711, (.slice Ao48 t712.length co48), (.slice Ao49 t715.length co49)] 29 (0, 0))) ∧ Aside0 (wc.heap[gb726]? = some (.cells #[.int .i64 t719, (.slice Ao57 t720.length co57), (.slice Ao58 t723.length co58)] 29 (0, 0))) ∧ Aside0 (Below w.heap.size w wc))
   case first =>
    have H := HC26.out
    clear HC26
    replace H := Option.bind_eq_some_iff.mp H
    obtain ⟨t731, A610, H⟩ := H
    replace H : (if t731 = true then (laws_FnExactConnectJacobi.j0 k a2 t707 t710 t727 t730 (t730 != t710) a0_0 l0_1 l0_2 a1_0 l1_1 l1_2 t711 t712 t715 t719 t720 t723) else (laws_FnExactConnectJacobi.j0 k a2 t707 t710 t727 t730 true a0_0 l0_1 l0_2 a1_0 l1_1 l1_2 t711 t712 t715 t719 t720 t723)) = some r := H
    have A61 := Aside0.mk A610
    clear A610
    by_cases c62 : t731 = true
    ·subst c62
     have H1 : (laws_FnExactConnectJacobi.j0 k a2 t707 t710 t727 t730 (t730 != t710) a0_0 l0_1 l0_2 a1_0 l1_1 l1_2 t711 t712 t715 t719 t720 t723) = some r := by rw [if_pos rfl] at H; exact H
     clear H
     have H := H1
     clear H1
     have H' := Aside0.mk H
     clear H
     obtain ⟨Ao63, co63, eo63⟩ := Kd.R_slice HO729.out
     subst eo63
     obtain ⟨Ao64, co64, eo64⟩ := Kd.R_slice HO709.out
     subst eo64
     go_wp2_with (first | ((with_reducible refine gate_callee (f := 29) rfl ?_); refine goesL_ (some 51) rfl rfl Try.func29 (by kernel_rfl) rfl #[.slice Ao63 t727.length co63, .slice Ao64 t707.length co64] rfl ZA ?_; (with_reducible refine (laws_eqInt64S.calls k _ _ t727 _ _ t707 true _ ?side1 ?side2 ?side3 ?side4 A61.out).mono ?_); (case side1 => repeat (first | exact (Kd.R_reads' HO729.out).2.2 | (with_reducible refine Kd.C_alloc ?_ _) | (with_reducible refine Kd.C_drewN ?_ _) | (with_reducible refine Kd.C_drew ?_))); (case side2 => exact (Kd.R_reads' HO729.out).2.1); (case side3 => repeat (first | exact (Kd.R_reads' HO709.out).2.2 | (with_reducible refine Kd.C_alloc ?_ _) | (with_reducible refine Kd.C_drewN ?_ _) | (with_reducible refine Kd.C_drew ?_))); (case side4 => exact (Kd.R_reads' HO709.out).2.1); rintro e w' ⟨rfl, ⟨nd, rfl⟩⟩; refine ⟨_, rfl, ?_⟩))
     go_meet
     case rel => exact ⟨_, ((t730 != t710)), (by first | rfl | (simp; done) | (simp [*]; done)), H', ⟨by first | omega | exact Nat.le_refl _⟩, ⟨by refine ZQ ?_; exact Kd.R_mono HO709.out (by first | exact (fun _ hk => (And.intro (hk.2) ((And.intro (hk.1.1.1.1.2) ((And.intro (hk.1.1.1.2) ((And.intro (hk.1.1.2) (hk.1.2))))))))) | exact ZO)⟩, ⟨by refine ZQ ?_; exact Kd.R_mono HO729.out (by first | exact (fun _ hk => (And.intro (hk.1.1.1.1.2) ((And.intro (hk.1.1.1.2) ((And.intro (hk.1.1.2) ((And.intro (hk.1.2) (hk.2))))))))) | exact ZO)⟩, ⟨by refine ZQ ?_; exact Kd.R_mono HO714.out (by first | exact (fun _ hk => (And.intro (hk.1.1.1.2) ((And.intro (hk.2) ((And.intro (hk.1.1.1.1.1.1.1.1) ((And.intro (hk.1.1.2) (hk.1.2))))))))) | exact ZO)⟩, ⟨by refine ZQ ?_; exact Kd.R_mono HO717.out (by first | exact (fun _ hk => (And.intro (hk.1.1.1.2) ((And.intro (hk.2) ((And.intro (hk.1.1.1.1.1.1.1.1) ((And.intro (hk.1.1.2) (hk.1.2))))))))) | exact ZO)⟩, ⟨by refine ZQ ?_; exact Kd.R_mono HO722.out (by first | exact (fun _ hk => (And.intro (hk.1.1.1.2) ((And.intro (hk.2) ((And.intro (hk.1.1.2) ((And.intro (hk.1.2) (hk.1.1.1.1.1.1.1.1))))))))) | exact ZO)⟩, ⟨by refine ZQ ?_; exact Kd.R_mono HO725.out (by first | exact (fun _ hk => (And.intro (hk.1.1.1.2) ((And.intro (hk.2) ((And.intro (hk.1.1.2) ((And.intro (hk.1.2) (hk.1.1.1.1.1.1.1.1))))))))) | exact ZO)⟩, ⟨ZK BK689⟩, ⟨ZK BK690⟩, ⟨ZK BK718⟩, ⟨ZK BK726⟩, ⟨ZB⟩⟩
    ·replace c62 := Bool.eq_false_iff.mpr c62
     subst c62
     have H1 : (laws_FnExactConnectJacobi.j0 k a2 t707 t710 t727 t730 true a0_0 l0_1 l0_2 a1_0 l1_1 l1_2 t711 t712 t715 t719 t720 t723) = some r := by rw [if_neg (show ¬ (false = true) by decide)] at H; exact H
     clear H
     have H := H1
     clear H1
     have H' := Aside0.mk H
     clear H
     obtain ⟨Ao65, co65, eo65⟩ := Kd.R_slice HO729.out
     subst eo65
     obtain ⟨Ao66, co66, eo66⟩ := Kd.R_slice HO709.out
     subst eo66
     go_wp2_with (first | ((with_reducible refine gate_callee (f := 29) rfl ?_); refine goesL_ (some 51) rfl rfl Try.func29 (by kernel_rfl) rfl #[.slice Ao65 t727.length co65, .slice Ao66 t707.length co66] rfl ZA ?_; (with_reducible refine (laws_eqInt64S.calls k _ _ t727 _ _ t707 false _ ?side1 ?side2 ?side3 ?side4 A61.out).mono ?_); (case side1 => repeat (first | exact (Kd.R_reads' HO729.out).2.2 | (with_reducible refine Kd.C_alloc ?_ _) | (with_reducible refine Kd.C_drewN ?_ _) | (with_reducible refine Kd.C_drew ?_))); (case side2 => exact (Kd.R_reads' HO729.out).2.1); (case side3 => repeat (first | exact (Kd.R_reads' HO709.out).2.2 | (with_reducible refine Kd.C_alloc ?_ _) | (with_reducible refine Kd.C_drewN ?_ _) | (with_reducible refine Kd.C_drew ?_))); (case side4 => exact (Kd.R_reads' HO709.out).2.1); rintro e w' ⟨rfl, ⟨nd, rfl⟩⟩; refine ⟨_, rfl, ?_⟩))
     go_meet
     case rel => exact ⟨_, (true), (by first | rfl | (simp; done) | (simp [*]; done)), H', ⟨by first | omega | exact Nat.le_refl _⟩, ⟨by refine ZQ ?_; exact Kd.R_mono HO709.out (by first | exact (fun _ hk => (And.intro (hk.2) ((And.intro (hk.1.1.1.1.2) ((And.intro (hk.1.1.1.2) ((And.intro (hk.1.1.2) (hk.1.2))))))))) | exact ZO)⟩, ⟨by refine ZQ ?_; exact Kd.R_mono HO729.out (by first | exact (fun _ hk => (And.intro (hk.1.1.1.1.2) ((And.intro (hk.1.1.1.2) ((And.intro (hk.1.1.2) ((And.intro (hk.1.2) (hk.2))))))))) | exact ZO)⟩, ⟨by refine ZQ ?_; exact Kd.R_mono HO714.out (by first | exact (fun _ hk => (And.intro (hk.1.1.1.2) ((And.intro (hk.2) ((And.intro (hk.1.1.1.1.1.1.1.1) ((And.intro (hk.1.1.2) (hk.1.2))))))))) | exact ZO)⟩, ⟨by refine ZQ ?_; exact Kd.R_mono HO717.out (by first | exact (fun _ hk => (And.intro (hk.1.1.1.2) ((And.intro (hk.2) ((And.intro (hk.1.1.1.1.1.1.1.1) ((And.intro (hk.1.1.2) (hk.1.2))))))))) | exact ZO)⟩, ⟨by refine ZQ ?_; exact Kd.R_mono HO722.out (by first | exact (fun _ hk => (And.intro (hk.1.1.1.2) ((And.intro (hk.2) ((And.intro (hk.1.1.2) ((And.intro (hk.1.2) (hk.1.1.1.1.1.1.1.1))))))))) | exact ZO)⟩, ⟨by refine ZQ ?_; exact Kd.R_mono HO725.out (by first | exact (fun _ hk => (And.intro (hk.1.1.1.2) ((And.intro (hk.2) ((And.intro (hk.1.1.2) ((And.intro (hk.1.2) (hk.1.1.1.1.1.1.1.1))))))))) | exact ZO)⟩, ⟨ZK BK689⟩, ⟨ZK BK690⟩, ⟨ZK BK718⟩, ⟨ZK BK726⟩, ⟨ZB⟩⟩
   case rest =>
    clear HC26
    try clear c1
    try clear c2
    try clear p2
    try clear c3
    try clear c4
    try clear c5
    try clear c5b0
    try clear c6
    try clear c8
    try clear c12
    try clear c12b0
    try clear c14
    try clear c15
    try clear c16
    try clear c29
    try clear c32
    try clear c33
    try clear c45
    try clear c46
    try clear c53
    try clear c54
    try clear c55
    try clear c62
    try clear hcz16_0
    try clear hcz16_1
    try clear hcz16_2
    try clear hcz18_0
    try clear hcz18_1
    try clear hcz18_2
    try clear hcz30_0
    try clear hcz30_1
    try clear hcz30_2
    try clear hcz32_0
    try clear hcz32_1
    try clear hcz32_2
    try clear hcz42_0
    try clear hcz42_1
    try clear hcz42_2
    try clear hcz47_0
    try clear hcz47_1
    try clear hcz47_2
    try clear hcz50_0
    try clear hcz50_1
    try clear hcz50_2
    try clear hcz56_0
    try clear hcz56_1
    try clear hcz56_2
    try clear hcz59_0
    try clear hcz59_1
    try clear hcz59_2
    try clear hcz9_0
    try clear hcz9_1
    try clear hcz9_2
    try clear hfz16_0
    try clear hfz16_1
    try clear hfz16_2
    try clear hfz18_0
    try clear hfz18_1
    try clear hfz18_2
    try clear hfz30_0
    try clear hfz30_1
    try clear hfz30_2
    try clear hfz32_0
    try clear hfz32_1
    try clear hfz32_2
    try clear hfz42_0
    try clear hfz42_1
    try clear hfz42_2
    try clear hfz47_0
    try clear hfz47_1
    try clear hfz47_2
    try clear hfz50_0
    try clear hfz50_1
    try clear hfz50_2
    try clear hfz56_0
    try clear hfz56_1
    try clear hfz56_2
    try clear hfz59_0
    try clear hfz59_1
    try clear hfz59_2
    try clear hfz9_0
    try clear hfz9_1
    try clear hfz9_2
    obtain ⟨kq, x57_25, rfl, HA, HJ25, HO_8, HO_12, HO_719001, HO_719002, HO_727001, HO_727002, BK689, BK690, BK718, BK726, HB⟩ := hcut
    cases kq with
    | zero => exact absurd HA.out (by simp [laws_FnExactConnectJacobi.j0])
    | succ kj25 =>
     have H := HA.out
     clear HA
     simp only [laws_FnExactConnectJacobi.j0] at H
     by_cases c67 : x57_25 = true
     ·subst c67
      have H1 : (some false) = some r := by rw [if_pos rfl] at H; exact H
      clear H
      have H := H1
      clear H1
      exact absurd (H.trans (congrArg some hT.out)) (by simp)
     ·replace c67 := Bool.eq_false_iff.mpr c67
      subst c67
      have H1 : ((laws_toJacobi.f kj25 a0_0 l0_1 l0_2).bind fun bt732 => ((laws_eqJacobi.f kj25 t711 t712 t715 bt732.1 bt732.2.1 bt732.2.2).bind fun t739 => (if t739 = true then ((laws_toJacobi.f kj25 a1_0 l1_1 l1_2).bind fun bt740 => ((laws_eqJacobi.f kj25 t719 t720 t723 bt740.1 bt740.2.1 bt740.2.2).bind fun t747 => (if t747 = true then ((laws_markJacobi.f kj25 t711 t712 t715 1).bind fun bt748 => ((laws_markJacobi.f kj25 t719 t720 t723 bt748.1).bind fun bt751 => (if bt751.1 < 0 then (laws_FnExactConnectJacobi.j1 kj25 a2 t707 t710 t727 true a0_0 l0_1 l0_2 a1_0 l1_1 l1_2) else ((laws_eqInt64S.f kj25 t727 t707).bind fun t754 => (if t754 = true then (laws_FnExactConnectJacobi.j1 kj25 a2 t707 t710 t727 (t730 != t710) a0_0 l0_1 l0_2 a1_0 l1_1 l1_2) else (laws_FnExactConnectJacobi.j1 kj25 a2 t707 t710 t727 true a0_0 l0_1 l0_2 a1_0 l1_1 l1_2)))))) else (some false)))) else (some false)))) = some r := by rw [if_neg (show ¬ (false = true) by decide)] at H; exact H
      clear H
      have H := H1
      clear H1
      replace H := Option.bind_eq_some_iff.mp H
      obtain ⟨⟨t732, t733, t736⟩, A680, H⟩ := H
      replace H : ((laws_eqJacobi.f kj25 t711 t712 t715 t732 t733 t736).bind fun t739 => (if t739 = true then ((laws_toJacobi.f kj25 a1_0 l1_1 l1_2).bind fun bt740 => ((laws_eqJacobi.f kj25 t719 t720 t723 bt740.1 bt740.2.1 bt740.2.2).bind fun t747 => (if t747 = true then ((laws_markJacobi.f kj25 t711 t712 t715 1).bind fun bt748 => ((laws_markJacobi.f kj25 t719 t720 t723 bt748.1).bind fun bt751 => (if bt751.1 < 0 then (laws_FnExactConnectJacobi.j1 kj25 a2 t707 t710 t727 true a0_0 l0_1 l0_2 a1_0 l1_1 l1_2) else ((laws_eqInt64S.f kj25 t727 t707).bind fun t754 => (if t754 = true then (laws_FnExactConnectJacobi.j1 kj25 a2 t707 t710 t727 (t730 != t710) a0_0 l0_1 l0_2 a1_0 l1_1 l1_2) else (laws_FnExactConnectJacobi.j1 kj25 a2 t707 t710 t727 true a0_0 l0_1 l0_2 a1_0 l1_1 l1_2)))))) else (some false)))) else (some false))) = some r := H
      have A68 := Aside0.mk A680
      clear A680
      replace H := Option.bind_eq_some_iff.mp H
      obtain ⟨t739, A690, H⟩ := H
      replace H : (if t739 = true then ((laws_toJacobi.f kj25 a1_0 l1_1 l1_2).bind fun bt740 => ((laws_eqJacobi.f kj25 t719 t720 t723 bt740.1 bt740.2.1 bt740.2.2).bind fun t747 => (if t747 = true then ((laws_markJacobi.f kj25 t711 t712 t715 1).bind fun bt748 => ((laws_markJacobi.f kj25 t719 t720 t723 bt748.1).bind fun bt751 => (if bt751.1 < 0 then (laws_FnExactConnectJacobi.j1 kj25 a2 t707 t710 t727 true a0_0 l0_1 l0_2 a1_0 l1_1 l1_2) else ((laws_eqInt64S.f kj25 t727 t707).bind fun t754 => (if t754 = true then (laws_FnExactConnectJacobi.j1 kj25 a2 t707 t710 t727 (t730 != t710) a0_0 l0_1 l0_2 a1_0 l1_1 l1_2) else (laws_FnExactConnectJacobi.j1 kj25 a2 t707 t710 t727 true a0_0 l0_1 l0_2 a1_0 l1_1 l1_2)))))) else (some false)))) else (some false)) = some r := H
      have A69 := Aside0.mk A690
      clear A690
      by_cases c70 : t739 = true
      ·subst c70
       have H1 : ((laws_toJacobi.f kj25 a1_0 l1_1 l1_2).bind fun bt740 => ((laws_eqJacobi.f kj25 t719 t720 t723 bt740.1 bt740.2.1 bt740.2.2).bind fun t747 => (if t747 = true then ((laws_markJacobi.f kj25 t711 t712 t715 1).bind fun bt748 => ((laws_markJacobi.f kj25 t719 t720 t723 bt748.1).bind fun bt751 => (if bt751.1 < 0 then (laws_FnExactConnectJacobi.j1 kj25 a2 t707 t710 t727 true a0_0 l0_1 l0_2 a1_0 l1_1 l1_2) else ((laws_eqInt64S.f kj25 t727 t707).bind fun t754 => (if t754 = true then (laws_FnExactConnectJacobi.j1 kj25 a2 t707 t710 t727 (t730 != t710) a0_0 l0_1 l0_2 a1_0 l1_1 l1_2) else (laws_FnExactConnectJacobi.j1 kj25 a2 t707 t710 t727 true a0_0 l0_1 l0_2 a1_0 l1_1 l1_2)))))) else (some false)))) = some r := by rw [if_pos rfl] at H; exact H
       clear H
       have H := H1
       clear H1
       replace H := Option.bind_eq_some_iff.mp H
       obtain ⟨⟨t740, t741, t744⟩, A710, H⟩ := H
       replace H : ((laws_eqJacobi.f kj25 t719 t720 t723 t740 t741 t744).bind fun t747 => (if t747 = true then ((laws_markJacobi.f kj25 t711 t712 t715 1).bind fun bt748 => ((laws_markJacobi.f kj25 t719 t720 t723 bt748.1).bind fun bt751 => (if bt751.1 < 0 then (laws_FnExactConnectJacobi.j1 kj25 a2 t707 t710 t727 true a0_0 l0_1 l0_2 a1_0 l1_1 l1_2) else ((laws_eqInt64S.f kj25 t727 t707).bind fun t754 => (if t754 = true then (laws_FnExactConnectJacobi.j1 kj25 a2 t707 t710 t727 (t730 != t710) a0_0 l0_1 l0_2 a1_0 l1_1 l1_2) else (laws_FnExactConnectJacobi.j1 kj25 a2 t707 t710 t727 true a0_0 l0_1 l0_2 a1_0 l1_1 l1_2)))))) else (some false))) = some r := H
       have A71 := Aside0.mk A710
       clear A710
       replace H := Option.bind_eq_some_iff.mp H
       obtain ⟨t747, A720, H⟩ := H
       replace H : (if t747 = true then ((laws_markJacobi.f kj25 t711 t712 t715 1).bind fun bt748 => ((laws_markJacobi.f kj25 t719 t720 t723 bt748.1).bind fun bt751 => (if bt751.1 < 0 then (laws_FnExactConnectJacobi.j1 kj25 a2 t707 t710 t727 true a0_0 l0_1 l0_2 a1_0 l1_1 l1_2) else ((laws_eqInt64S.f kj25 t727 t707).bind fun t754 => (if t754 = true then (laws_FnExactConnectJacobi.j1 kj25 a2 t707 t710 t727 (t730 != t710) a0_0 l0_1 l0_2 a1_0 l1_1 l1_2) else (laws_FnExactConnectJacobi.j1 kj25 a2 t707 t710 t727 true a0_0 l0_1 l0_2 a1_0 l1_1 l1_2)))))) else (some false)) = some r := H
       have A72 := Aside0.mk A720
       clear A720
       by_cases c73 : t747 = true
       ·subst c73
        have H1 : ((laws_markJacobi.f kj25 t711 t712 t715 1).bind fun bt748 => ((laws_markJacobi.f kj25 t719 t720 t723 bt748.1).bind fun bt751 => (if bt751.1 < 0 then (laws_FnExactConnectJacobi.j1 kj25 a2 t707 t710 t727 true a0_0 l0_1 l0_2 a1_0 l1_1 l1_2) else ((laws_eqInt64S.f kj25 t727 t707).bind fun t754 => (if t754 = true then (laws_FnExactConnectJacobi.j1 kj25 a2 t707 t710 t727 (t730 != t710) a0_0 l0_1 l0_2 a1_0 l1_1 l1_2) else (laws_FnExactConnectJacobi.j1 kj25 a2 t707 t710 t727 true a0_0 l0_1 l0_2 a1_0 l1_1 l1_2)))))) = some r := by rw [if_pos rfl] at H; exact H
        clear H
        have H := H1
        clear H1
        replace H := Option.bind_eq_some_iff.mp H
        obtain ⟨⟨t748, t749, t750⟩, A740, H⟩ := H
        replace H : ((laws_markJacobi.f kj25 t719 t720 t723 t748).bind fun bt751 => (if bt751.1 < 0 then (laws_FnExactConnectJacobi.j1 kj25 a2 t707 t710 t727 true a0_0 l0_1 l0_2 a1_0 l1_1 l1_2) else ((laws_eqInt64S.f kj25 t727 t707).bind fun t754 => (if t754 = true then (laws_FnExactConnectJacobi.j1 kj25 a2 t707 t710 t727 (t730 != t710) a0_0 l0_1 l0_2 a1_0 l1_1 l1_2) else (laws_FnExactConnectJacobi.j1 kj25 a2 t707 t710 t727 true a0_0 l0_1 l0_2 a1_0 l1_1 l1_2))))) = some r := H
        have A74 := Aside0.mk A740
        clear A740
        replace H := Option.bind_eq_some_iff.mp H
        obtain ⟨⟨t751, t752, t753⟩, A750, H⟩ := H
        replace H : (if t751 < 0 then (laws_FnExactConnectJacobi.j1 kj25 a2 t707 t710 t727 true a0_0 l0_1 l0_2 a1_0 l1_1 l1_2) else ((laws_eqInt64S.f kj25 t727 t707).bind fun t754 => (if t754 = true then (laws_FnExactConnectJacobi.j1 kj25 a2 t707 t710 t727 (t730 != t710) a0_0 l0_1 l0_2 a1_0 l1_1 l1_2) else (laws_FnExactConnectJacobi.j1 kj25 a2 t707 t710 t727 true a0_0 l0_1 l0_2 a1_0 l1_1 l1_2)))) = some r := H
        have A75 := Aside0.mk A750
        clear A750
        have HC76 := Aside0.mk H
        clear H
        try go_wp2
        have n0_ := Aside0.mk (Kd.R_drew HO_8.out)
        have n1_ := Aside0.mk (Kd.R_drew HO_12.out)
        have n2_ := Aside0.mk (Kd.R_drew HO_719001.out)
        have n3_ := Aside0.mk (Kd.R_drew HO_719002.out)
        have n4_ := Aside0.mk (Kd.R_drew HO_727001.out)
        have n5_ := Aside0.mk (Kd.R_drew HO_727002.out)
        have n6_ := Aside0.mk (blk_drew BK689.out)
        have n7_ := Aside0.mk (blk_drew BK690.out)
        have n8_ := Aside0.mk (blk_drew BK718.out)
        have n9_ := Aside0.mk (blk_drew BK726.out)
        have n10_ := Aside0.mk (below_drew1 HB.out)
        clear HO_8
        clear HO_12
        clear HO_719001
        clear HO_719002
        clear HO_727001
        clear HO_727002
        clear BK689
        clear BK690
        clear BK718
        clear BK726
        clear HB
        have HO_8 := n0_
        have HO_12 := n1_
        have HO_719001 := n2_
        have HO_719002 := n3_
        have HO_727001 := n4_
        have HO_727002 := n5_
        have BK689 := n6_
        have BK690 := n7_
        have BK718 := n8_
        have BK726 := n9_
        have HB := n10_
        clear n0_ n1_ n2_ n3_ n4_ n5_ n6_ n7_ n8_ n9_ n10_
        refine start_ (n := 5) (S := fun w' => w'.cell? ⟨gb718, 0, none⟩ = some (.int .i64 t711) ∧ w'.cell? ⟨gb718, 1, none⟩ = some (.slice Ao48 t712.length co48) ∧ w'.cell? ⟨gb718, 2, none⟩ = some (.slice Ao49 t715.length co49) ∧ w'.cell? ⟨gb689, 0, none⟩ = some (.int .i64 a0_0) ∧ w'.cell? ⟨gb689, 1, none⟩ = some (.slice A0_1 l0_1.length c0_1) ∧ w'.cell? ⟨gb689, 2, none⟩ = some (.slice A0_2 l0_2.length c0_2)) (ds := []) #[false, false, false, false, false] (by kernel_rfl) rfl rfl ⟨(blk_cell BK718.out 0).trans rfl, (blk_cell BK718.out 1).trans rfl, (blk_cell BK718.out 2).trans rfl, (blk_cell BK689.out 0).trans rfl, (blk_cell BK689.out 1).trans rfl, (blk_cell BK689.out 2).trans rfl⟩ (fun hHeld => ?_)
        generalize wc.drew = w77 at HO_8 HO_12 HO_719001 HO_719002 HO_727001 HO_727002 BK689 BK690 BK718 BK726 HB hHeld ⊢
        refine Zt6 0 (some 58) hHeld (h := ?_)
        refine Zt6 1 (some 59) hHeld (h := ?_)
        refine one_ (i := 2) (N := some 60) #[true, true, true, false, false] rfl rfl (by kernel_rfl) (by decide) (fun K hK => ?_)
        refine goes_ Try.func16 (by kernel_rfl) rfl #[.agg #[.int .i64 a0_0, .slice A0_1 l0_1.length c0_1, .slice A0_2 l0_2.length c0_2]] (by rfl) rfl rfl ZA ?_
        with_reducible refine (laws_toJacobi.calls kj25 a0_0 _ _ l0_1 _ _ l0_2 t732 t733 t736 _ ?side1 ?side2 ?side3 ?side4 A68.out).mono ?_
        (case side1 => exact ZC HR0_1)
        (case side2 => exact HC0_1.out)
        (case side3 => exact ZC HR0_2)
        (case side4 => exact HC0_2.out)
        rintro e w78 ⟨v734, v737, rfl, ho0, ho1, hb⟩
        refine ⟨_, rfl, ?_⟩
        have n0_ := Aside0.mk (Kd.R_mono (Kd.R_told (Kd.R_told (Kd.R_old (ZR HO_8) hb) (Kd.R_base ho0)) (Kd.R_base ho1)) (fun _ h_ => h_.1))
        have n1_ := Aside0.mk (Kd.R_mono (Kd.R_told (Kd.R_told (Kd.R_old (ZR HO_12) hb) (Kd.R_base ho0)) (Kd.R_base ho1)) (fun _ h_ => h_.1))
        have n2_ := Aside0.mk (Kd.R_mono (Kd.R_told (Kd.R_told (Kd.R_old (ZR HO_719001) hb) (Kd.R_base ho0)) (Kd.R_base ho1)) (fun _ h_ => h_.1))
        have n3_ := Aside0.mk (Kd.R_mono (Kd.R_told (Kd.R_told (Kd.R_old (ZR HO_719002) hb) (Kd.R_base ho0)) (Kd.R_base ho1)) (fun _ h_ => h_.1))
        have n4_ := Aside0.mk (Kd.R_mono (Kd.R_told (Kd.R_told (Kd.R_old (ZR HO_727001) hb) (Kd.R_base ho0)) (Kd.R_base ho1)) (fun _ h_ => h_.1))
        have n5_ := Aside0.mk (Kd.R_mono (Kd.R_told (Kd.R_told (Kd.R_old (ZR HO_727002) hb) (Kd.R_base ho0)) (Kd.R_base ho1)) (fun _ h_ => h_.1))
        have n6_ := Aside0.mk (Kd.R_lower (Kd.R_new' (Kd.R_new' (Kd.R_new' (Kd.R_new' (Kd.R_new' (Kd.R_new' ho0 (Kd.R_lt (ZR HO_8))) (Kd.R_lt (ZR HO_12))) (Kd.R_lt (ZR HO_719001))) (Kd.R_lt (ZR HO_719002))) (Kd.R_lt (ZR HO_727001))) (Kd.R_lt (ZR HO_727002))) (below_size ZB))
        have n7_ := Aside0.mk (Kd.R_lower (Kd.R_new' (Kd.R_new' (Kd.R_new' (Kd.R_new' (Kd.R_new' (Kd.R_new' ho1 (Kd.R_lt (ZR HO_8))) (Kd.R_lt (ZR HO_12))) (Kd.R_lt (ZR HO_719001))) (Kd.R_lt (ZR HO_719002))) (Kd.R_lt (ZR HO_727001))) (Kd.R_lt (ZR HO_727002))) (below_size ZB))
        have n8_ := ZL BK689 hb
        have n9_ := ZL BK690 hb
        have n10_ := ZL BK718 hb
        have n11_ := ZL BK726 hb
        have n12_ := Aside0.mk (below_step ZB hb)
        clear HO_8
        clear HO_12
        clear HO_719001
        clear HO_719002
        clear HO_727001
        clear HO_727002
        clear BK689
        clear BK690
        clear BK718
        clear BK726
        clear HB
        have HO_8 := n0_
        have HO_12 := n1_
        have HO_719001 := n2_
        have HO_719002 := n3_
        have HO_727001 := n4_
        have HO_727002 := n5_
        have HO735 := n6_
        have HO738 := n7_
        have BK689 := n8_
        have BK690 := n9_
        have BK718 := n10_
        have BK726 := n11_
        have HB := n12_
        clear n0_ n1_ n2_ n3_ n4_ n5_ n6_ n7_ n8_ n9_ n10_ n11_ n12_
        (try clear hb)
        (try clear hb2)
        (try clear hk)
        (try clear hi)
        (try clear ho0)
        (try clear ho1)
        obtain ⟨Ao79, co79, eo79⟩ := Kd.R_slice HO735.out
        (first | subst eo79 | (injection eo79 with f1_ f2_ f3_; have f4_ := f1_.symm; have f5_ := f3_.symm; clear f1_ f2_ f3_; subst f4_; subst f5_))
        obtain ⟨Ao80, co80, eo80⟩ := Kd.R_slice HO738.out
        (first | subst eo80 | (injection eo80 with f1_ f2_ f3_; have f4_ := f1_.symm; have f5_ := f3_.symm; clear f1_ f2_ f3_; subst f4_; subst f5_))
        refine hK.out _ _ ⟨(blk_cell BK718.out 0).trans rfl, (blk_cell BK718.out 1).trans rfl, (blk_cell BK718.out 2).trans rfl, (blk_cell BK689.out 0).trans rfl, (blk_cell BK689.out 1).trans rfl, (blk_cell BK689.out 2).trans rfl⟩ (fun hHeld => ?_)
        clear hK K
        refine norm_ (a' := ?_) ?_ ?_
        rotate_left
        ·show Act.put _ (some 60) _ = _
         simp only [Act.put, List.setIfInBounds_toArray, List.set_cons_zero, List.set_cons_succ, i64_w, i32_w]
         rfl
        refine one_ (i := 3) (N := some 61) #[true, true, true, true, false] rfl rfl (by kernel_rfl) (by decide) (fun K hK => ?_)
        refine goes_ Try.func19 (by kernel_rfl) rfl #[.agg #[.int .i64 t711, .slice Ao48 t712.length co48, .slice Ao49 t715.length co49], .agg #[.int .i64 t732, .slice Ao79 t733.length co79, .slice Ao80 t736.length co80]] (by rfl) rfl rfl ZA ?_
        with_reducible refine (laws_eqJacobi.calls kj25 t711 _ _ t712 _ _ t715 t732 _ _ t733 _ _ t736 true _ ?side1 ?side2 ?side3 ?side4 ?side5 ?side6 ?side7 ?side8 A69.out).mono ?_
        (case side1 => repeat (first | exact (Kd.R_reads' HO_719001.out).2.2 | (with_reducible refine Kd.C_alloc ?_ _) | (with_reducible refine Kd.C_drewN ?_ _) | (with_reducible refine Kd.C_drew ?_)))
        (case side2 => exact (Kd.R_reads' HO_719001.out).2.1)
        (case side3 => repeat (first | exact (Kd.R_reads' HO_719002.out).2.2 | (with_reducible refine Kd.C_alloc ?_ _) | (with_reducible refine Kd.C_drewN ?_ _) | (with_reducible refine Kd.C_drew ?_)))
        (case side4 => exact (Kd.R_reads' HO_719002.out).2.1)
        (case side5 => repeat (first | exact (Kd.R_reads' HO735.out).2.2 | (with_reducible refine Kd.C_alloc ?_ _) | (with_reducible refine Kd.C_drewN ?_ _) | (with_reducible refine Kd.C_drew ?_)))
        (case side6 => exact (Kd.R_reads' HO735.out).2.1)
        (case side7 => repeat (first | exact (Kd.R_reads' HO738.out).2.2 | (with_reducible refine Kd.C_alloc ?_ _) | (with_reducible refine Kd.C_drewN ?_ _) | (with_reducible refine Kd.C_drew ?_)))
        (case side8 => exact (Kd.R_reads' HO738.out).2.1)
        rintro e w81 ⟨rfl, hb⟩
        refine ⟨_, rfl, ?_⟩
        have n0_ := Aside0.mk (Kd.R_below (ZR HO_8) hb)
        have n1_ := Aside0.mk (Kd.R_below (ZR HO_12) hb)
        have n2_ := Aside0.mk (Kd.R_below (ZR HO_719001) hb)
        have n3_ := Aside0.mk (Kd.R_below (ZR HO_719002) hb)
        have n4_ := Aside0.mk (Kd.R_below (ZR HO_727001) hb)
        have n5_ := Aside0.mk (Kd.R_below (ZR HO_727002) hb)
        have n6_ := Aside0.mk (Kd.R_below (ZR HO735) hb)
        have n7_ := Aside0.mk (Kd.R_below (ZR HO738) hb)
        have n8_ := ZL BK689 hb
        have n9_ := ZL BK690 hb
        have n10_ := ZL BK718 hb
        have n11_ := ZL BK726 hb
        have n12_ := Aside0.mk (below_step ZB hb)
        clear HO_8
        clear HO_12
        clear HO_719001
        clear HO_719002
        clear HO_727001
        clear HO_727002
        clear HO735
        clear HO738
        clear BK689
        clear BK690
        clear BK718
        clear BK726
        clear HB
        have HO_8 := n0_
        have HO_12 := n1_
        have HO_719001 := n2_
        have HO_719002 := n3_
        have HO_727001 := n4_
        have HO_727002 := n5_
        have HO735 := n6_
        have HO738 := n7_
        have BK689 := n8_
        have BK690 := n9_
        have BK718 := n10_
        have BK726 := n11_
        have HB := n12_
        clear n0_ n1_ n2_ n3_ n4_ n5_ n6_ n7_ n8_ n9_ n10_ n11_ n12_
        (try clear hb)
        (try clear hb2)
        (try clear hk)
        (try clear hi)
        refine hK.out _ _ ⟨(blk_cell BK718.out 0).trans rfl, (blk_cell BK718.out 1).trans rfl, (blk_cell BK718.out 2).trans rfl, (blk_cell BK689.out 0).trans rfl, (blk_cell BK689.out 1).trans rfl, (blk_cell BK689.out 2).trans rfl⟩ (fun hHeld => ?_)
        clear hK K
        refine norm_ (a' := ?_) ?_ ?_
        rotate_left
        ·show Act.put _ (some 61) _ = _
         simp only [Act.put, List.setIfInBounds_toArray, List.set_cons_zero, List.set_cons_succ, i64_w, i32_w]
         rfl
        refine Zp 4 (some 62) (h := ?_)
        refine done_ (by kernel_rfl) ?_
        try go_wp2
        have n0_ := Aside0.mk (Kd.R_drew HO_8.out)
        have n1_ := Aside0.mk (Kd.R_drew HO_12.out)
        have n2_ := Aside0.mk (Kd.R_drew HO_719001.out)
        have n3_ := Aside0.mk (Kd.R_drew HO_719002.out)
        have n4_ := Aside0.mk (Kd.R_drew HO_727001.out)
        have n5_ := Aside0.mk (Kd.R_drew HO_727002.out)
        have n6_ := Aside0.mk (Kd.R_drew HO735.out)
        have n7_ := Aside0.mk (Kd.R_drew HO738.out)
        have n8_ := Aside0.mk (blk_drew BK689.out)
        have n9_ := Aside0.mk (blk_drew BK690.out)
        have n10_ := Aside0.mk (blk_drew BK718.out)
        have n11_ := Aside0.mk (blk_drew BK726.out)
        have n12_ := Aside0.mk (below_drew1 HB.out)
        clear HO_8
        clear HO_12
        clear HO_719001
        clear HO_719002
        clear HO_727001
        clear HO_727002
        clear HO735
        clear HO738
        clear BK689
        clear BK690
        clear BK718
        clear BK726
        clear HB
        have HO_8 := n0_
        have HO_12 := n1_
        have HO_719001 := n2_
        have HO_719002 := n3_
        have HO_727001 := n4_
        have HO_727002 := n5_
        have HO735 := n6_
        have HO738 := n7_
        have BK689 := n8_
        have BK690 := n9_
        have BK718 := n10_
        have BK726 := n11_
        have HB := n12_
        clear n0_ n1_ n2_ n3_ n4_ n5_ n6_ n7_ n8_ n9_ n10_ n11_ n12_
        refine start_ (n := 5) (S := fun w' => w'.cell? ⟨gb726, 0, none⟩ = some (.int .i64 t719) ∧ w'.cell? ⟨gb726, 1, none⟩ = some (.slice Ao57 t720.length co57) ∧ w'.cell? ⟨gb726, 2, none⟩ = some (.slice Ao58 t723.length co58) ∧ w'.cell? ⟨gb690, 0, none⟩ = some (.int .i64 a1_0) ∧ w'.cell? ⟨gb690, 1, none⟩ = some (.slice A1_1 l1_1.length c1_1) ∧ w'.cell? ⟨gb690, 2, none⟩ = some (.slice A1_2 l1_2.length c1_2)) (ds := []) #[false, false, false, false, false] (by kernel_rfl) rfl rfl ⟨(blk_cell BK726.out 0).trans rfl, (blk_cell BK726.out 1).trans rfl, (blk_cell BK726.out 2).trans rfl, (blk_cell BK690.out 0).trans rfl, (blk_cell BK690.out 1).trans rfl, (blk_cell BK690.out 2).trans rfl⟩ (fun hHeld => ?_)
        generalize w81.drew = w82 at HO_8 HO_12 HO_719001 HO_719002 HO_727001 HO_727002 HO735 HO738 BK689 BK690 BK718 BK726 HB hHeld ⊢
        refine Zt6 0 (some 63) hHeld (h := ?_)
        refine Zt6 1 (some 64) hHeld (h := ?_)
        refine one_ (i := 2) (N := some 65) #[true, true, true, false, false] rfl rfl (by kernel_rfl) (by decide) (fun K hK => ?_)
        refine goes_ Try.func16 (by kernel_rfl) rfl #[.agg #[.int .i64 a1_0, .slice A1_1 l1_1.length c1_1, .slice A1_2 l1_2.length c1_2]] (by rfl) rfl rfl ZA ?_
        with_reducible refine (laws_toJacobi.calls kj25 a1_0 _ _ l1_1 _ _ l1_2 t740 t741 t744 _ ?side1 ?side2 ?side3 ?side4 A71.out).mono ?_
        (case side1 => exact ZC HR1_1)
        (case side2 => exact HC1_1.out)
        (case side3 => exact ZC HR1_2)
        (case side4 => exact HC1_2.out)
        rintro e w83 ⟨v742, v745, rfl, ho0, ho1, hb⟩
        refine ⟨_, rfl, ?_⟩
        have n0_ := Aside0.mk (Kd.R_mono (Kd.R_told (Kd.R_told (Kd.R_old (ZR HO_8) hb) (Kd.R_base ho0)) (Kd.R_base ho1)) (fun _ h_ => h_.1))
        have n1_ := Aside0.mk (Kd.R_mono (Kd.R_told (Kd.R_told (Kd.R_old (ZR HO_12) hb) (Kd.R_base ho0)) (Kd.R_base ho1)) (fun _ h_ => h_.1))
        have n2_ := Aside0.mk (Kd.R_mono (Kd.R_told (Kd.R_told (Kd.R_old (ZR HO_719001) hb) (Kd.R_base ho0)) (Kd.R_base ho1)) (fun _ h_ => h_.1))
        have n3_ := Aside0.mk (Kd.R_mono (Kd.R_told (Kd.R_told (Kd.R_old (ZR HO_719002) hb) (Kd.R_base ho0)) (Kd.R_base ho1)) (fun _ h_ => h_.1))
        have n4_ := Aside0.mk (Kd.R_mono (Kd.R_told (Kd.R_told (Kd.R_old (ZR HO_727001) hb) (Kd.R_base ho0)) (Kd.R_base ho1)) (fun _ h_ => h_.1))
        have n5_ := Aside0.mk (Kd.R_mono (Kd.R_told (Kd.R_told (Kd.R_old (ZR HO_727002) hb) (Kd.R_base ho0)) (Kd.R_base ho1)) (fun _ h_ => h_.1))
        have n6_ := Aside0.mk (Kd.R_mono (Kd.R_told (Kd.R_told (Kd.R_old (ZR HO735) hb) (Kd.R_base ho0)) (Kd.R_base ho1)) (fun _ h_ => h_.1))
        have n7_ := Aside0.mk (Kd.R_mono (Kd.R_told (Kd.R_told (Kd.R_old (ZR HO738) hb) (Kd.R_base ho0)) (Kd.R_base ho1)) (fun _ h_ => h_.1))
        have n8_ := Aside0.mk (Kd.R_lower (Kd.R_new' (Kd.R_new' (Kd.R_new' (Kd.R_new' (Kd.R_new' (Kd.R_new' (Kd.R_new' (Kd.R_new' ho0 (Kd.R_lt (ZR HO_8))) (Kd.R_lt (ZR HO_12))) (Kd.R_lt (ZR HO_719001))) (Kd.R_lt (ZR HO_719002))) (Kd.R_lt (ZR HO_727001))) (Kd.R_lt (ZR HO_727002))) (Kd.R_lt (ZR HO735))) (Kd.R_lt (ZR HO738))) (below_size ZB))
        have n9_ := Aside0.mk (Kd.R_lower (Kd.R_new' (Kd.R_new' (Kd.R_new' (Kd.R_new' (Kd.R_new' (Kd.R_new' (Kd.R_new' (Kd.R_new' ho1 (Kd.R_lt (ZR HO_8))) (Kd.R_lt (ZR HO_12))) (Kd.R_lt (ZR HO_719001))) (Kd.R_lt (ZR HO_719002))) (Kd.R_lt (ZR HO_727001))) (Kd.R_lt (ZR HO_727002))) (Kd.R_lt (ZR HO735))) (Kd.R_lt (ZR HO738))) (below_size ZB))
        have n10_ := ZL BK689 hb
        have n11_ := ZL BK690 hb
        have n12_ := ZL BK718 hb
        have n13_ := ZL BK726 hb
        have n14_ := Aside0.mk (below_step ZB hb)
        clear HO_8
        clear HO_12
        clear HO_719001
        clear HO_719002
        clear HO_727001
        clear HO_727002
        clear HO735
        clear HO738
        clear BK689
        clear BK690
        clear BK718
        clear BK726
        clear HB
        have HO_8 := n0_
        have HO_12 := n1_
        have HO_719001 := n2_
        have HO_719002 := n3_
        have HO_727001 := n4_
        have HO_727002 := n5_
        have HO735 := n6_
        have HO738 := n7_
        have HO743 := n8_
        have HO746 := n9_
        have BK689 := n10_
        have BK690 := n11_
        have BK718 := n12_
        have BK726 := n13_
        have HB := n14_
        clear n0_ n1_ n2_ n3_ n4_ n5_ n6_ n7_ n8_ n9_ n10_ n11_ n12_ n13_ n14_
        (try clear hb)
        (try clear hb2)
        (try clear hk)
        (try clear hi)
        (try clear ho0)
        (try clear ho1)
        obtain ⟨Ao84, co84, eo84⟩ := Kd.R_slice HO743.out
        (first | subst eo84 | (injection eo84 with f1_ f2_ f3_; have f4_ := f1_.symm; have f5_ := f3_.symm; clear f1_ f2_ f3_; subst f4_; subst f5_))
        obtain ⟨Ao85, co85, eo85⟩ := Kd.R_slice HO746.out
        (first | subst eo85 | (injection eo85 with f1_ f2_ f3_; have f4_ := f1_.symm; have f5_ := f3_.symm; clear f1_ f2_ f3_; subst f4_; subst f5_))
        refine hK.out _ _ ⟨(blk_cell BK726.out 0).trans rfl, (blk_cell BK726.out 1).trans rfl, (blk_cell BK726.out 2).trans rfl, (blk_cell BK690.out 0).trans rfl, (blk_cell BK690.out 1).trans rfl, (blk_cell BK690.out 2).trans rfl⟩ (fun hHeld => ?_)
        clear hK K
        refine norm_ (a' := ?_) ?_ ?_
        rotate_left
        ·show Act.put _ (some 65) _ = _
         simp only [Act.put, List.setIfInBounds_toArray, List.set_cons_zero, List.set_cons_succ, i64_w, i32_w]
         rfl
        refine one_ (i := 3) (N := some 66) #[true, true, true, true, false] rfl rfl (by kernel_rfl) (by decide) (fun K hK => ?_)
        refine goes_ Try.func19 (by kernel_rfl) rfl #[.agg #[.int .i64 t719, .slice Ao57 t720.length co57, .slice Ao58 t723.length co58], .agg #[.int .i64 t740, .slice Ao84 t741.length co84, .slice Ao85 t744.length co85]] (by rfl) rfl rfl ZA ?_
        with_reducible refine (laws_eqJacobi.calls kj25 t719 _ _ t720 _ _ t723 t740 _ _ t741 _ _ t744 true _ ?side1 ?side2 ?side3 ?side4 ?side5 ?side6 ?side7 ?side8 A72.out).mono ?_
        (case side1 => repeat (first | exact (Kd.R_reads' HO_727001.out).2.2 | (with_reducible refine Kd.C_alloc ?_ _) | (with_reducible refine Kd.C_drewN ?_ _) | (with_reducible refine Kd.C_drew ?_)))
        (case side2 => exact (Kd.R_reads' HO_727001.out).2.1)
        (case side3 => repeat (first | exact (Kd.R_reads' HO_727002.out).2.2 | (with_reducible refine Kd.C_alloc ?_ _) | (with_reducible refine Kd.C_drewN ?_ _) | (with_reducible refine Kd.C_drew ?_)))
        (case side4 => exact (Kd.R_reads' HO_727002.out).2.1)
        (case side5 => repeat (first | exact (Kd.R_reads' HO743.out).2.2 | (with_reducible refine Kd.C_alloc ?_ _) | (with_reducible refine Kd.C_drewN ?_ _) | (with_reducible refine Kd.C_drew ?_)))
        (case side6 => exact (Kd.R_reads' HO743.out).2.1)
        (case side7 => repeat (first | exact (Kd.R_reads' HO746.out).2.2 | (with_reducible refine Kd.C_alloc ?_ _) | (with_reducible refine Kd.C_drewN ?_ _) | (with_reducible refine Kd.C_drew ?_)))
        (case side8 => exact (Kd.R_reads' HO746.out).2.1)
        rintro e w86 ⟨rfl, hb⟩
        refine ⟨_, rfl, ?_⟩
        have n0_ := Aside0.mk (Kd.R_below (ZR HO_8) hb)
        have n1_ := Aside0.mk (Kd.R_below (ZR HO_12) hb)
        have n2_ := Aside0.mk (Kd.R_below (ZR HO_719001) hb)
        have n3_ := Aside0.mk (Kd.R_below (ZR HO_719002) hb)
        have n4_ := Aside0.mk (Kd.R_below (ZR HO_727001) hb)
        have n5_ := Aside0.mk (Kd.R_below (ZR HO_727002) hb)
        have n6_ := Aside0.mk (Kd.R_below (ZR HO735) hb)
        have n7_ := Aside0.mk (Kd.R_below (ZR HO738) hb)
        have n8_ := Aside0.mk (Kd.R_below (ZR HO743) hb)
        have n9_ := Aside0.mk (Kd.R_below (ZR HO746) hb)
        have n10_ := ZL BK689 hb
        have n11_ := ZL BK690 hb
        have n12_ := ZL BK718 hb
        have n13_ := ZL BK726 hb
        have n14_ := Aside0.mk (below_step ZB hb)
        clear HO_8
        clear HO_12
        clear HO_719001
        clear HO_719002
        clear HO_727001
        clear HO_727002
        clear HO735
        clear HO738
        clear HO743
        clear HO746
        clear BK689
        clear BK690
        clear BK718
        clear BK726
        clear HB
        have HO_8 := n0_
        have HO_12 := n1_
        have HO_719001 := n2_
        have HO_719002 := n3_
        have HO_727001 := n4_
        have HO_727002 := n5_
        have HO735 := n6_
        have HO738 := n7_
        have HO743 := n8_
        have HO746 := n9_
        have BK689 := n10_
        have BK690 := n11_
        have BK718 := n12_
        have BK726 := n13_
        have HB := n14_
        clear n0_ n1_ n2_ n3_ n4_ n5_ n6_ n7_ n8_ n9_ n10_ n11_ n12_ n13_ n14_
        (try clear hb)
        (try clear hb2)
        (try clear hk)
        (try clear hi)
        refine hK.out _ _ ⟨(blk_cell BK726.out 0).trans rfl, (blk_cell BK726.out 1).trans rfl, (blk_cell BK726.out 2).trans rfl, (blk_cell BK690.out 0).trans rfl, (blk_cell BK690.out 1).trans rfl, (blk_cell BK690.out 2).trans rfl⟩ (fun hHeld => ?_)
        clear hK K
        refine norm_ (a' := ?_) ?_ ?_
        rotate_left
        ·show Act.put _ (some 66) _ = _
         simp only [Act.put, List.setIfInBounds_toArray, List.set_cons_zero, List.set_cons_succ, i64_w, i32_w]
         rfl
        refine Zp 4 (some 67) (h := ?_)
        refine done_ (by kernel_rfl) ?_
        have hnb87 := NB718_689.out
        have hnc87 := NB689_718.out
        have hnb88 := NB718_690.out
        have hnc88 := NB690_718.out
        have hnb89 := NB718_726.out
        have hnc89 := NB726_718.out
        obtain ⟨hcz90_0, hcz90_1, hcz90_2, hfz90_0, hfz90_1, hfz90_2⟩ := ZD3 BK718
        go_upto_region 21 with (first | ((with_reducible refine gate_callee (f := 20) rfl ?_); refine goesL_ (some 70) rfl rfl Try.func20 (by kernel_rfl) rfl #[.agg #[.int .i64 t711, .slice Ao48 t712.length co48, .slice Ao49 t715.length co49], .int .i64 1] rfl ZA ?_; (with_reducible refine (laws_markJacobi.calls kj25 t711 (fun k_ => some k_ = (.slice Ao48 t712.length co48 : Value).ownBlock) (.slice Ao48 t712.length co48) t712 (fun k_ => some k_ = (.slice Ao49 t715.length co49 : Value).ownBlock) (.slice Ao49 t715.length co49) t715 1 t748 t749 t750 w _ ?side1 ?side2 ?side3 ?side4 ?side5 A74.out).mono ?_); (case side1 => repeat (first | (with_reducible first | exact HB.out | apply below_alloc | apply pw_below_drewN | apply below_drew1 | refine below_set ?_ GE689.out | refine below_set ?_ GE690.out | refine below_set ?_ GE718.out | refine below_set ?_ GE726.out) | exact HB.out)); (case side2 => exact Kd.R_tight rfl HO_719001.out); (case side3 => exact fun k_ e_ => (HO_719001.out.1 k_ e_.symm).1.1.1.1.2.2.1); (case side4 => exact Kd.R_tight rfl HO_719002.out); (case side5 => exact fun k_ e_ => (HO_719002.out.1 k_ e_.symm).1.1.1.1.2.2.1); rintro e w91 ⟨rfl, hy0, hy1, hb, hkp⟩; refine ⟨_, rfl, ?_⟩; have n0_ := Aside0.mk (Kd.R_mono (ok' := fun k_ => some k_ ≠ (v728 : Value).ownBlock ∧ some k_ ≠ (.slice Ao48 t712.length co48 : Value).ownBlock ∧ some k_ ≠ (.slice Ao49 t715.length co49 : Value).ownBlock ∧ some k_ ≠ (.slice Ao57 t720.length co57 : Value).ownBlock ∧ some k_ ≠ (.slice Ao58 t723.length co58 : Value).ownBlock ∧ some k_ ≠ (.slice Ao79 t733.length co79 : Value).ownBlock ∧ some k_ ≠ (.slice Ao80 t736.length co80 : Value).ownBlock ∧ some k_ ≠ (.slice Ao84 t741.length co84 : Value).ownBlock ∧ some k_ ≠ (.slice Ao85 t744.length co85 : Value).ownBlock) (Kd.R_keptB (HO_8.out) hkp (fun k_ hk_ hs_ => Or.elim hs_ (fun e_ => (hk_.1.1.1.1.2.1) e_) (fun e_ => (hk_.1.1.1.1.2.2.1) e_))) (fun k_ hk_ => ⟨hk_.1.1.1.1.1.1, hk_.1.1.1.1.1.2.1, hk_.1.1.1.1.1.2.2.1, hk_.1.1.1.1.1.2.2.2.1, hk_.1.1.1.1.1.2.2.2.2, hk_.1.1.1.1.2, hk_.1.1.1.2, hk_.1.1.2, hk_.1.2⟩)); have n1_ := Aside0.mk (Kd.R_mono (ok' := fun k_ => some k_ ≠ (v708 : Value).ownBlock ∧ some k_ ≠ (.slice Ao48 t712.length co48 : Value).ownBlock ∧ some k_ ≠ (.slice Ao49 t715.length co49 : Value).ownBlock ∧ some k_ ≠ (.slice Ao57 t720.length co57 : Value).ownBlock ∧ some k_ ≠ (.slice Ao58 t723.length co58 : Value).ownBlock ∧ some k_ ≠ (.slice Ao79 t733.length co79 : Value).ownBlock ∧ some k_ ≠ (.slice Ao80 t736.length co80 : Value).ownBlock ∧ some k_ ≠ (.slice Ao84 t741.length co84 : Value).ownBlock ∧ some k_ ≠ (.slice Ao85 t744.length co85 : Value).ownBlock) (Kd.R_keptB (HO_12.out) hkp (fun k_ hk_ hs_ => Or.elim hs_ (fun e_ => (hk_.1.1.1.1.2.1) e_) (fun e_ => (hk_.1.1.1.1.2.2.1) e_))) (fun k_ hk_ => ⟨hk_.1.1.1.1.1.1, hk_.1.1.1.1.1.2.1, hk_.1.1.1.1.1.2.2.1, hk_.1.1.1.1.1.2.2.2.1, hk_.1.1.1.1.1.2.2.2.2, hk_.1.1.1.1.2, hk_.1.1.1.2, hk_.1.1.2, hk_.1.2⟩)); have n2_ := Aside0.mk (Kd.R_reok rfl hy0 (fun k_ e_ => HO_719001.out.1 k_ e_)); have n3_ := Aside0.mk (Kd.R_reok rfl hy1 (fun k_ e_ => HO_719002.out.1 k_ e_)); have n4_ := Aside0.mk (Kd.R_mono (ok' := fun k_ => some k_ ≠ (v708 : Value).ownBlock ∧ some k_ ≠ (v728 : Value).ownBlock ∧ some k_ ≠ (.slice Ao48 t712.length co48 : Value).ownBlock ∧ some k_ ≠ (.slice Ao49 t715.length co49 : Value).ownBlock ∧ some k_ ≠ (.slice Ao58 t723.length co58 : Value).ownBlock ∧ some k_ ≠ (.slice Ao79 t733.length co79 : Value).ownBlock ∧ some k_ ≠ (.slice Ao80 t736.length co80 : Value).ownBlock ∧ some k_ ≠ (.slice Ao84 t741.length co84 : Value).ownBlock ∧ some k_ ≠ (.slice Ao85 t744.length co85 : Value).ownBlock) (Kd.R_keptB (HO_727001.out) hkp (fun k_ hk_ hs_ => Or.elim hs_ (fun e_ => (hk_.1.1.1.1.2.2.1) e_) (fun e_ => (hk_.1.1.1.1.2.2.2.1) e_))) (fun k_ hk_ => ⟨hk_.1.1.1.1.1.1, hk_.1.1.1.1.1.2.1, hk_.1.1.1.1.1.2.2.1, hk_.1.1.1.1.1.2.2.2.1, hk_.1.1.1.1.1.2.2.2.2, hk_.1.1.1.1.2, hk_.1.1.1.2, hk_.1.1.2, hk_.1.2⟩)); have n5_ := Aside0.mk (Kd.R_mono (ok' := fun k_ => some k_ ≠ (v708 : Value).ownBlock ∧ some k_ ≠ (v728 : Value).ownBlock ∧ some k_ ≠ (.slice Ao48 t712.length co48 : Value).ownBlock ∧ some k_ ≠ (.slice Ao49 t715.length co49 : Value).ownBlock ∧ some k_ ≠ (.slice Ao57 t720.length co57 : Value).ownBlock ∧ some k_ ≠ (.slice Ao79 t733.length co79 : Value).ownBlock ∧ some k_ ≠ (.slice Ao80 t736.length co80 : Value).ownBlock ∧ some k_ ≠ (.slice Ao84 t741.length co84 : Value).ownBlock ∧ some k_ ≠ (.slice Ao85 t744.length co85 : Value).ownBlock) (Kd.R_keptB (HO_727002.out) hkp (fun k_ hk_ hs_ => Or.elim hs_ (fun e_ => (hk_.1.1.1.1.2.2.1) e_) (fun e_ => (hk_.1.1.1.1.2.2.2.1) e_))) (fun k_ hk_ => ⟨hk_.1.1.1.1.1.1, hk_.1.1.1.1.1.2.1, hk_.1.1.1.1.1.2.2.1, hk_.1.1.1.1.1.2.2.2.1, hk_.1.1.1.1.1.2.2.2.2, hk_.1.1.1.1.2, hk_.1.1.1.2, hk_.1.1.2, hk_.1.2⟩)); have n6_ := Aside0.mk (blk_kept (ZK BK689) hkp (fun hs_ => Or.elim hs_ (fun e_ => (fun e_ => (Kd.R_ne HO_719001.out BK689.out (by decide)) e_) e_) (fun e_ => (fun e_ => (Kd.R_ne HO_719002.out BK689.out (by decide)) e_) e_))); have n7_ := Aside0.mk (blk_kept (ZK BK690) hkp (fun hs_ => Or.elim hs_ (fun e_ => (fun e_ => (Kd.R_ne HO_719001.out BK690.out (by decide)) e_) e_) (fun e_ => (fun e_ => (Kd.R_ne HO_719002.out BK690.out (by decide)) e_) e_))); have n8_ := Aside0.mk (blk_kept (ZK BK718) hkp (fun hs_ => Or.elim hs_ (fun e_ => (fun e_ => (Kd.R_ne HO_719001.out BK718.out (by decide)) e_) e_) (fun e_ => (fun e_ => (Kd.R_ne HO_719002.out BK718.out (by decide)) e_) e_))); have n9_ := Aside0.mk (blk_kept (ZK BK726) hkp (fun hs_ => Or.elim hs_ (fun e_ => (fun e_ => (Kd.R_ne HO_719001.out BK726.out (by decide)) e_) e_) (fun e_ => (fun e_ => (Kd.R_ne HO_719002.out BK726.out (by decide)) e_) e_))); have n10_ := Aside0.mk (Kd.R_mono (ok' := fun k_ => some k_ ≠ (v708 : Value).ownBlock ∧ some k_ ≠ (v728 : Value).ownBlock ∧ some k_ ≠ (.slice Ao48 t712.length co48 : Value).ownBlock ∧ some k_ ≠ (.slice Ao49 t715.length co49 : Value).ownBlock ∧ some k_ ≠ (.slice Ao57 t720.length co57 : Value).ownBlock ∧ some k_ ≠ (.slice Ao58 t723.length co58 : Value).ownBlock ∧ some k_ ≠ (.slice Ao80 t736.length co80 : Value).ownBlock ∧ some k_ ≠ (.slice Ao84 t741.length co84 : Value).ownBlock ∧ some k_ ≠ (.slice Ao85 t744.length co85 : Value).ownBlock) (Kd.R_keptB (HO735.out) hkp (fun k_ hk_ hs_ => Or.elim hs_ (fun e_ => (hk_.1.1.1.1.1.2) e_) (fun e_ => (hk_.1.1.1.1.2) e_))) (fun k_ hk_ => ⟨hk_.1.1.1.1.1.1.1.1.2, hk_.1.1.1.1.1.1.1.2, hk_.1.1.1.1.1.1.2, hk_.1.1.1.1.1.2, hk_.1.1.1.1.2, hk_.1.1.1.2, hk_.1.1.1.1.1.1.1.1.1, hk_.1.1.2, hk_.1.2⟩)); have n11_ := Aside0.mk (Kd.R_mono (ok' := fun k_ => some k_ ≠ (v708 : Value).ownBlock ∧ some k_ ≠ (v728 : Value).ownBlock ∧ some k_ ≠ (.slice Ao48 t712.length co48 : Value).ownBlock ∧ some k_ ≠ (.slice Ao49 t715.length co49 : Value).ownBlock ∧ some k_ ≠ (.slice Ao57 t720.length co57 : Value).ownBlock ∧ some k_ ≠ (.slice Ao58 t723.length co58 : Value).ownBlock ∧ some k_ ≠ (.slice Ao79 t733.length co79 : Value).ownBlock ∧ some k_ ≠ (.slice Ao84 t741.length co84 : Value).ownBlock ∧ some k_ ≠ (.slice Ao85 t744.length co85 : Value).ownBlock) (Kd.R_keptB (HO738.out) hkp (fun k_ hk_ hs_ => Or.elim hs_ (fun e_ => (hk_.1.1.1.1.1.2) e_) (fun e_ => (hk_.1.1.1.1.2) e_))) (fun k_ hk_ => ⟨hk_.1.1.1.1.1.1.1.1.2, hk_.1.1.1.1.1.1.1.2, hk_.1.1.1.1.1.1.2, hk_.1.1.1.1.1.2, hk_.1.1.1.1.2, hk_.1.1.1.2, hk_.1.1.1.1.1.1.1.1.1, hk_.1.1.2, hk_.1.2⟩)); have n12_ := Aside0.mk (Kd.R_mono (ok' := fun k_ => some k_ ≠ (v708 : Value).ownBlock ∧ some k_ ≠ (v728 : Value).ownBlock ∧ some k_ ≠ (.slice Ao48 t712.length co48 : Value).ownBlock ∧ some k_ ≠ (.slice Ao49 t715.length co49 : Value).ownBlock ∧ some k_ ≠ (.slice Ao57 t720.length co57 : Value).ownBlock ∧ some k_ ≠ (.slice Ao58 t723.length co58 : Value).ownBlock ∧ some k_ ≠ (.slice Ao79 t733.length co79 : Value).ownBlock ∧ some k_ ≠ (.slice Ao80 t736.length co80 : Value).ownBlock ∧ some k_ ≠ (.slice Ao85 t744.length co85 : Value).ownBlock) (Kd.R_keptB (HO743.out) hkp (fun k_ hk_ hs_ => Or.elim hs_ (fun e_ => (hk_.1.1.1.1.1.2) e_) (fun e_ => (hk_.1.1.1.1.2) e_))) (fun k_ hk_ => ⟨hk_.1.1.1.1.1.1.1.1.2, hk_.1.1.1.1.1.1.1.2, hk_.1.1.1.1.1.1.2, hk_.1.1.1.1.1.2, hk_.1.1.1.1.2, hk_.1.1.1.2, hk_.1.1.2, hk_.1.2, hk_.1.1.1.1.1.1.1.1.1⟩)); have n13_ := Aside0.mk (Kd.R_mono (ok' := fun k_ => some k_ ≠ (v708 : Value).ownBlock ∧ some k_ ≠ (v728 : Value).ownBlock ∧ some k_ ≠ (.slice Ao48 t712.length co48 : Value).ownBlock ∧ some k_ ≠ (.slice Ao49 t715.length co49 : Value).ownBlock ∧ some k_ ≠ (.slice Ao57 t720.length co57 : Value).ownBlock ∧ some k_ ≠ (.slice Ao58 t723.length co58 : Value).ownBlock ∧ some k_ ≠ (.slice Ao79 t733.length co79 : Value).ownBlock ∧ some k_ ≠ (.slice Ao80 t736.length co80 : Value).ownBlock ∧ some k_ ≠ (.slice Ao84 t741.length co84 : Value).ownBlock) (Kd.R_keptB (HO746.out) hkp (fun k_ hk_ hs_ => Or.elim hs_ (fun e_ => (hk_.1.1.1.1.1.2) e_) (fun e_ => (hk_.1.1.1.1.2) e_))) (fun k_ hk_ => ⟨hk_.1.1.1.1.1.1.1.1.2, hk_.1.1.1.1.1.1.1.2, hk_.1.1.1.1.1.1.2, hk_.1.1.1.1.1.2, hk_.1.1.1.1.2, hk_.1.1.1.2, hk_.1.1.2, hk_.1.2, hk_.1.1.1.1.1.1.1.1.1⟩)); have n14_ := Aside0.mk (hb); clear HO_8; clear HO_12; clear HO_719001; clear HO_719002; clear HO_727001; clear HO_727002; clear BK689; clear BK690; clear BK718; clear BK726; clear HO735; clear HO738; clear HO743; clear HO746; clear HB; have HO_8 := n0_; have HO_12 := n1_; have HO_719001 := n2_; have HO_719002 := n3_; have HO_727001 := n4_; have HO_727002 := n5_; have BK689 := n6_; have BK690 := n7_; have BK718 := n8_; have BK726 := n9_; have HO735 := n10_; have HO738 := n11_; have HO743 := n12_; have HO746 := n13_; have HB := n14_; clear n0_ n1_ n2_ n3_ n4_ n5_ n6_ n7_ n8_ n9_ n10_ n11_ n12_ n13_ n14_; (try clear hb); (try clear hkp); (try clear hy0); (try clear hy1); have hnb92 := NB726_689.out; have hnc92 := NB689_726.out; have hnb93 := NB726_690.out; have hnc93 := NB690_726.out; obtain ⟨hcz94_0, hcz94_1, hcz94_2, hfz94_0, hfz94_1, hfz94_2⟩ := ZD3 BK726) | ((with_reducible refine gate_callee (f := 20) rfl ?_); refine goesL_ (some 73) rfl rfl Try.func20 (by kernel_rfl) rfl #[.agg #[.int .i64 t719, .slice Ao57 t720.length co57, .slice Ao58 t723.length co58], .int .i64 t748] rfl ZA ?_; (with_reducible refine (laws_markJacobi.calls kj25 t719 (fun k_ => some k_ = (.slice Ao57 t720.length co57 : Value).ownBlock) (.slice Ao57 t720.length co57) t720 (fun k_ => some k_ = (.slice Ao58 t723.length co58 : Value).ownBlock) (.slice Ao58 t723.length co58) t723 t748 t751 t752 t753 w _ ?side1 ?side2 ?side3 ?side4 ?side5 A75.out).mono ?_); (case side1 => repeat (first | (with_reducible first | exact HB.out | apply below_alloc | apply pw_below_drewN | apply below_drew1 | refine below_set ?_ GE689.out | refine below_set ?_ GE690.out | refine below_set ?_ GE718.out | refine below_set ?_ GE726.out) | exact HB.out)); (case side2 => exact Kd.R_tight rfl HO_727001.out); (case side3 => exact fun k_ e_ => (HO_727001.out.1 k_ e_.symm).2.2.2.2.1); (case side4 => exact Kd.R_tight rfl HO_727002.out); (case side5 => exact fun k_ e_ => (HO_727002.out.1 k_ e_.symm).2.2.2.2.1); rintro e w95 ⟨rfl, hy0, hy1, hb, hkp⟩; refine ⟨_, rfl, ?_⟩; have n0_ := Aside0.mk (Kd.R_mono (ok' := fun k_ => some k_ ≠ (v728 : Value).ownBlock ∧ some k_ ≠ (.slice Ao48 t712.length co48 : Value).ownBlock ∧ some k_ ≠ (.slice Ao49 t715.length co49 : Value).ownBlock ∧ some k_ ≠ (.slice Ao57 t720.length co57 : Value).ownBlock ∧ some k_ ≠ (.slice Ao58 t723.length co58 : Value).ownBlock ∧ some k_ ≠ (.slice Ao79 t733.length co79 : Value).ownBlock ∧ some k_ ≠ (.slice Ao80 t736.length co80 : Value).ownBlock ∧ some k_ ≠ (.slice Ao84 t741.length co84 : Value).ownBlock ∧ some k_ ≠ (.slice Ao85 t744.length co85 : Value).ownBlock) (Kd.R_keptB (HO_8.out) hkp (fun k_ hk_ hs_ => Or.elim hs_ (fun e_ => (hk_.2.2.2.1) e_) (fun e_ => (hk_.2.2.2.2.1) e_))) (fun k_ hk_ => ⟨hk_.1.1, hk_.1.2.1, hk_.1.2.2.1, hk_.1.2.2.2.1, hk_.1.2.2.2.2.1, hk_.1.2.2.2.2.2.1, hk_.1.2.2.2.2.2.2.1, hk_.1.2.2.2.2.2.2.2.1, hk_.1.2.2.2.2.2.2.2.2⟩)); have n1_ := Aside0.mk (Kd.R_mono (ok' := fun k_ => some k_ ≠ (v708 : Value).ownBlock ∧ some k_ ≠ (.slice Ao48 t712.length co48 : Value).ownBlock ∧ some k_ ≠ (.slice Ao49 t715.length co49 : Value).ownBlock ∧ some k_ ≠ (.slice Ao57 t720.length co57 : Value).ownBlock ∧ some k_ ≠ (.slice Ao58 t723.length co58 : Value).ownBlock ∧ some k_ ≠ (.slice Ao79 t733.length co79 : Value).ownBlock ∧ some k_ ≠ (.slice Ao80 t736.length co80 : Value).ownBlock ∧ some k_ ≠ (.slice Ao84 t741.length co84 : Value).ownBlock ∧ some k_ ≠ (.slice Ao85 t744.length co85 : Value).ownBlock) (Kd.R_keptB (HO_12.out) hkp (fun k_ hk_ hs_ => Or.elim hs_ (fun e_ => (hk_.2.2.2.1) e_) (fun e_ => (hk_.2.2.2.2.1) e_))) (fun k_ hk_ => ⟨hk_.1.1, hk_.1.2.1, hk_.1.2.2.1, hk_.1.2.2.2.1, hk_.1.2.2.2.2.1, hk_.1.2.2.2.2.2.1, hk_.1.2.2.2.2.2.2.1, hk_.1.2.2.2.2.2.2.2.1, hk_.1.2.2.2.2.2.2.2.2⟩)); have n2_ := Aside0.mk (Kd.R_mono (ok' := fun k_ => some k_ ≠ (v708 : Value).ownBlock ∧ some k_ ≠ (v728 : Value).ownBlock ∧ some k_ ≠ (.slice Ao49 t715.length co49 : Value).ownBlock ∧ some k_ ≠ (.slice Ao57 t720.length co57 : Value).ownBlock ∧ some k_ ≠ (.slice Ao58 t723.length co58 : Value).ownBlock ∧ some k_ ≠ (.slice Ao79 t733.length co79 : Value).ownBlock ∧ some k_ ≠ (.slice Ao80 t736.length co80 : Value).ownBlock ∧ some k_ ≠ (.slice Ao84 t741.length co84 : Value).ownBlock ∧ some k_ ≠ (.slice Ao85 t744.length co85 : Value).ownBlock) (Kd.R_keptB (HO_719001.out) hkp (fun k_ hk_ hs_ => Or.elim hs_ (fun e_ => (hk_.1.1.1.1.2.2.2.1) e_) (fun e_ => (hk_.1.1.1.1.2.2.2.2) e_))) (fun k_ hk_ => ⟨hk_.1.1.1.1.1.1, hk_.1.1.1.1.1.2.1, hk_.1.1.1.1.1.2.2.1, hk_.1.1.1.1.1.2.2.2.1, hk_.1.1.1.1.1.2.2.2.2, hk_.1.1.1.1.2, hk_.1.1.1.2, hk_.1.1.2, hk_.1.2⟩)); have n3_ := Aside0.mk (Kd.R_mono (ok' := fun k_ => some k_ ≠ (v708 : Value).ownBlock ∧ some k_ ≠ (v728 : Value).ownBlock ∧ some k_ ≠ (.slice Ao48 t712.length co48 : Value).ownBlock ∧ some k_ ≠ (.slice Ao57 t720.length co57 : Value).ownBlock ∧ some k_ ≠ (.slice Ao58 t723.length co58 : Value).ownBlock ∧ some k_ ≠ (.slice Ao79 t733.length co79 : Value).ownBlock ∧ some k_ ≠ (.slice Ao80 t736.length co80 : Value).ownBlock ∧ some k_ ≠ (.slice Ao84 t741.length co84 : Value).ownBlock ∧ some k_ ≠ (.slice Ao85 t744.length co85 : Value).ownBlock) (Kd.R_keptB (HO_719002.out) hkp (fun k_ hk_ hs_ => Or.elim hs_ (fun e_ => (hk_.1.1.1.1.2.2.2.1) e_) (fun e_ => (hk_.1.1.1.1.2.2.2.2) e_))) (fun k_ hk_ => ⟨hk_.1.1.1.1.1.1, hk_.1.1.1.1.1.2.1, hk_.1.1.1.1.1.2.2.1, hk_.1.1.1.1.1.2.2.2.1, hk_.1.1.1.1.1.2.2.2.2, hk_.1.1.1.1.2, hk_.1.1.1.2, hk_.1.1.2, hk_.1.2⟩)); have n4_ := Aside0.mk (Kd.R_reok rfl hy0 (fun k_ e_ => HO_727001.out.1 k_ e_)); have n5_ := Aside0.mk (Kd.R_reok rfl hy1 (fun k_ e_ => HO_727002.out.1 k_ e_)); have n6_ := Aside0.mk (blk_kept (ZK BK689) hkp (fun hs_ => Or.elim hs_ (fun e_ => (fun e_ => (Kd.R_ne HO_727001.out BK689.out (by decide)) e_) e_) (fun e_ => (fun e_ => (Kd.R_ne HO_727002.out BK689.out (by decide)) e_) e_))); have n7_ := Aside0.mk (blk_kept (ZK BK690) hkp (fun hs_ => Or.elim hs_ (fun e_ => (fun e_ => (Kd.R_ne HO_727001.out BK690.out (by decide)) e_) e_) (fun e_ => (fun e_ => (Kd.R_ne HO_727002.out BK690.out (by decide)) e_) e_))); have n8_ := Aside0.mk (blk_kept (ZK BK718) hkp (fun hs_ => Or.elim hs_ (fun e_ => (fun e_ => (Kd.R_ne HO_727001.out BK718.out (by decide)) e_) e_) (fun e_ => (fun e_ => (Kd.R_ne HO_727002.out BK718.out (by decide)) e_) e_))); have n9_ := Aside0.mk (blk_kept (ZK BK726) hkp (fun hs_ => Or.elim hs_ (fun e_ => (fun e_ => (Kd.R_ne HO_727001.out BK726.out (by decide)) e_) e_) (fun e_ => (fun e_ => (Kd.R_ne HO_727002.out BK726.out (by decide)) e_) e_))); have n10_ := Aside0.mk (Kd.R_mono (ok' := fun k_ => some k_ ≠ (v708 : Value).ownBlock ∧ some k_ ≠ (v728 : Value).ownBlock ∧ some k_ ≠ (.slice Ao48 t712.length co48 : Value).ownBlock ∧ some k_ ≠ (.slice Ao49 t715.length co49 : Value).ownBlock ∧ some k_ ≠ (.slice Ao57 t720.length co57 : Value).ownBlock ∧ some k_ ≠ (.slice Ao58 t723.length co58 : Value).ownBlock ∧ some k_ ≠ (.slice Ao80 t736.length co80 : Value).ownBlock ∧ some k_ ≠ (.slice Ao84 t741.length co84 : Value).ownBlock ∧ some k_ ≠ (.slice Ao85 t744.length co85 : Value).ownBlock) (Kd.R_keptB (HO735.out) hkp (fun k_ hk_ hs_ => Or.elim hs_ (fun e_ => (hk_.2.2.2.2.1) e_) (fun e_ => (hk_.2.2.2.2.2.1) e_))) (fun k_ hk_ => ⟨hk_.1.1, hk_.1.2.1, hk_.1.2.2.1, hk_.1.2.2.2.1, hk_.1.2.2.2.2.1, hk_.1.2.2.2.2.2.1, hk_.1.2.2.2.2.2.2.1, hk_.1.2.2.2.2.2.2.2.1, hk_.1.2.2.2.2.2.2.2.2⟩)); have n11_ := Aside0.mk (Kd.R_mono (ok' := fun k_ => some k_ ≠ (v708 : Value).ownBlock ∧ some k_ ≠ (v728 : Value).ownBlock ∧ some k_ ≠ (.slice Ao48 t712.length co48 : Value).ownBlock ∧ some k_ ≠ (.slice Ao49 t715.length co49 : Value).ownBlock ∧ some k_ ≠ (.slice Ao57 t720.length co57 : Value).ownBlock ∧ some k_ ≠ (.slice Ao58 t723.length co58 : Value).ownBlock ∧ some k_ ≠ (.slice Ao79 t733.length co79 : Value).ownBlock ∧ some k_ ≠ (.slice Ao84 t741.length co84 : Value).ownBlock ∧ some k_ ≠ (.slice Ao85 t744.length co85 : Value).ownBlock) (Kd.R_keptB (HO738.out) hkp (fun k_ hk_ hs_ => Or.elim hs_ (fun e_ => (hk_.2.2.2.2.1) e_) (fun e_ => (hk_.2.2.2.2.2.1) e_))) (fun k_ hk_ => ⟨hk_.1.1, hk_.1.2.1, hk_.1.2.2.1, hk_.1.2.2.2.1, hk_.1.2.2.2.2.1, hk_.1.2.2.2.2.2.1, hk_.1.2.2.2.2.2.2.1, hk_.1.2.2.2.2.2.2.2.1, hk_.1.2.2.2.2.2.2.2.2⟩)); have n12_ := Aside0.mk (Kd.R_mono (ok' := fun k_ => some k_ ≠ (v708 : Value).ownBlock ∧ some k_ ≠ (v728 : Value).ownBlock ∧ some k_ ≠ (.slice Ao48 t712.length co48 : Value).ownBlock ∧ some k_ ≠ (.slice Ao49 t715.length co49 : Value).ownBlock ∧ some k_ ≠ (.slice Ao57 t720.length co57 : Value).ownBlock ∧ some k_ ≠ (.slice Ao58 t723.length co58 : Value).ownBlock ∧ some k_ ≠ (.slice Ao79 t733.length co79 : Value).ownBlock ∧ some k_ ≠ (.slice Ao80 t736.length co80 : Value).ownBlock ∧ some k_ ≠ (.slice Ao85 t744.length co85 : Value).ownBlock) (Kd.R_keptB (HO743.out) hkp (fun k_ hk_ hs_ => Or.elim hs_ (fun e_ => (hk_.2.2.2.2.1) e_) (fun e_ => (hk_.2.2.2.2.2.1) e_))) (fun k_ hk_ => ⟨hk_.1.1, hk_.1.2.1, hk_.1.2.2.1, hk_.1.2.2.2.1, hk_.1.2.2.2.2.1, hk_.1.2.2.2.2.2.1, hk_.1.2.2.2.2.2.2.1, hk_.1.2.2.2.2.2.2.2.1, hk_.1.2.2.2.2.2.2.2.2⟩)); have n13_ := Aside0.mk (Kd.R_mono (ok' := fun k_ => some k_ ≠ (v708 : Value).ownBlock ∧ some k_ ≠ (v728 : Value).ownBlock ∧ some k_ ≠ (.slice Ao48 t712.length co48 : Value).ownBlock ∧ some k_ ≠ (.slice Ao49 t715.length co49 : Value).ownBlock ∧ some k_ ≠ (.slice Ao57 t720.length co57 : Value).ownBlock ∧ some k_ ≠ (.slice Ao58 t723.length co58 : Value).ownBlock ∧ some k_ ≠ (.slice Ao79 t733.length co79 : Value).ownBlock ∧ some k_ ≠ (.slice Ao80 t736.length co80 : Value).ownBlock ∧ some k_ ≠ (.slice Ao84 t741.length co84 : Value).ownBlock) (Kd.R_keptB (HO746.out) hkp (fun k_ hk_ hs_ => Or.elim hs_ (fun e_ => (hk_.2.2.2.2.1) e_) (fun e_ => (hk_.2.2.2.2.2.1) e_))) (fun k_ hk_ => ⟨hk_.1.1, hk_.1.2.1, hk_.1.2.2.1, hk_.1.2.2.2.1, hk_.1.2.2.2.2.1, hk_.1.2.2.2.2.2.1, hk_.1.2.2.2.2.2.2.1, hk_.1.2.2.2.2.2.2.2.1, hk_.1.2.2.2.2.2.2.2.2⟩)); have n14_ := Aside0.mk (hb); clear HO_8; clear HO_12; clear HO_719001; clear HO_719002; clear HO_727001; clear HO_727002; clear BK689; clear BK690; clear BK718; clear BK726; clear HO735; clear HO738; clear HO743; clear HO746; clear HB; have HO_8 := n0_; have HO_12 := n1_; have HO_719001 := n2_; have HO_719002 := n3_; have HO_727001 := n4_; have HO_727002 := n5_; have BK689 := n6_; have BK690 := n7_; have BK718 := n8_; have BK726 := n9_; have HO735 := n10_; have HO738 := n11_; have HO743 := n12_; have HO746 := n13_; have HB := n14_; clear n0_ n1_ n2_ n3_ n4_ n5_ n6_ n7_ n8_ n9_ n10_ n11_ n12_ n13_ n14_; (try clear hb); (try clear hkp); (try clear hy0); (try clear hy1)))
        (try simp only [Act.put, List.setIfInBounds_toArray, List.set_cons_zero, List.set_cons_succ])
        go_cut [86] (fun v86 wc => ∃ (kq : Nat) (x86_75 : Bool), v86 = .bool x86_75 ∧ Aside0 (laws_FnExactConnectJacobi.j1 kq a2 t707 t710 t727 x86_75 a0_0 l0_1 l0_2 a1_0 l1_1 l1_2 = some r) ∧ Aside0 (kq ≤ kj25) ∧ Aside0 (Kd.R (Kd.int .i64) 2 wc w.heap.size (fun k_ => some k_ ≠ (v728 : Value).ownBlock ∧ some k_ ≠ ((.slice Ao48 t712.length co48) : Value).ownBlock ∧ some k_ ≠ ((.slice Ao49 t715.length co49) : Value).ownBlock ∧ some k_ ≠ ((.slice Ao57 t720.length co57) : Value).ownBlock ∧ some k_ ≠ ((.slice Ao58 t723.length co58) : Value).ownBlock) v708 t707) ∧ Aside0 (Kd.R (Kd.int .i64) 2 wc w.heap.size (fun k_ => some k_ ≠ (v708 : Value).ownBlock ∧ some k_ ≠ ((.slice Ao48 t712.length co48) : Value).ownBlock ∧ some k_ ≠ ((.slice Ao49 t715.length co49) : Value).ownBlock ∧ some k_ ≠ ((.slice Ao57 t720.length co57) : Value).ownBlock ∧ some k_ ≠ ((.slice Ao58 t723.length co58) : Value).ownBlock) v728 t727) ∧ Aside0 (Kd.R (Kd.int .i64) 2 wc w.heap.size (fun k_ => some k_ ≠ (v708 : Value).ownBlock ∧ some k_ ≠ (v728 : Value).ownBlock ∧ some k_ ≠ ((.slice Ao49 t715.length co49) : Value).ownBlock ∧ some k_ ≠ ((.slice Ao57 t720.length co57) : Value).ownBlock ∧ some k_ ≠ ((.slice Ao58 t723.length co58) : Value).ownBlock) (.slice Ao48 t712.length co48) t749) ∧ Aside0 (Kd.R (Kd.int .i64) 2 wc w.heap.size (fun k_ => some k_ ≠ (v708 : Value).ownBlock ∧ some k_ ≠ (v728 : Value).ownBlock ∧ some k_ ≠ ((.slice Ao48 t712.length co48) : Value).ownBlock ∧ some k_ ≠ ((.slice Ao57 t720.length co57) : Value).ownBlock ∧ some k_ ≠ ((.slice Ao58 t723.length co58) : Value).ownBlock) (.slice Ao49 t715.length co49) t750) ∧ Aside0 (Kd.R (Kd.int .i64) 2 wc w.heap.size (fun k_ => some k_ ≠ (v708 : Value).ownBlock ∧ some k_ ≠ (v728 : Value).ownBlock ∧ some k_ ≠ ((.slice Ao48 t712.length co48) : Value).ownBlock ∧ some k_ ≠ ((.slice Ao49 t715.length co49) : Value).ownBlock ∧ some k_ ≠ ((.slice Ao58 t723.length co58) : Value).ownBlock) (.slice Ao57 t720.length co57) t752) ∧ Aside0 (Kd.R (Kd.int .i64) 2 wc w.heap.size (fun k_ => some k_ ≠ (v708 : Value).ownBlock ∧ some k_ ≠ (v728 : Value).ownBlock ∧ some k_ ≠ ((.slice Ao48 t712.length co48) : Value).ownBlock ∧ some k_ ≠ ((.slice Ao49 t715.length co49) : Value).ownBlock ∧ some k_ ≠ ((.slice Ao57 t720.length co57) : Value).ownBlock) (.slice Ao58 t723.length co58) t753) ∧ Aside0 (wc.heap[gb689]? = some (.cells #[.int .i64 a0_0, (.slice A0_1 l0_1.length c0_1), (.slice A0_2 l0_2.length c0_2)] 24 (0, 0))) ∧ Aside0 (wc.heap[gb690]? = some (.cells #[.int .i64 a1_0, (.slice A1_1 l1_1.length c1_1), (.slice A1_2 l1_2.length c1_2)] 24 (0, 0))) ∧ Aside0 (wc.heap[gb718]? = some (.cells #[.int .i64 t711, (.slice Ao48 t712.length co48), (.slice Ao49 t715.length co49)] 29 (0, 0))) ∧ Aside0 (wc.heap[gb726]? = some (.cells #[.int .i64 t719, (.slice Ao57 t720.length co57), (.slice Ao58 t723.length co58)] 29 (0, 0))) ∧ Aside0 (Below w.heap.size w wc))
        case first =>
         have H := HC76.out
         clear HC76
         by_cases c96 : t751 < 0
         ·rw [if_pos c96] at H
          have c96b0 : decide (t751 < 0) = true := decide_eq_true c96
          clear c96
          (first | rw [c96b0] | (simp only [i64_w, i32_w]; rw [c96b0]) | skip)
          have H' := Aside0.mk H
          clear H
          go_wp2
          go_meet
          case rel => exact ⟨_, (true), (by first | rfl | (simp; done) | (simp [*]; done)), H', ⟨by have := HJ25.out; first | omega | exact Nat.le_refl _⟩, ⟨by refine ZQ ?_; exact Kd.R_mono HO_8.out (by first | exact (fun _ hk => (And.intro (hk.1) ((And.intro (hk.2.1) ((And.intro (hk.2.2.1) ((And.intro (hk.2.2.2.1) (hk.2.2.2.2.1))))))))) | exact ZO)⟩, ⟨by refine ZQ ?_; exact Kd.R_mono HO_12.out (by first | exact (fun _ hk => (And.intro (hk.1) ((And.intro (hk.2.1) ((And.intro (hk.2.2.1) ((And.intro (hk.2.2.2.1) (hk.2.2.2.2.1))))))))) | exact ZO)⟩, ⟨by refine ZQ ?_; exact Kd.R_mono HO_719001.out (by first | exact (fun _ hk => (And.intro (hk.1) ((And.intro (hk.2.1) ((And.intro (hk.2.2.1) ((And.intro (hk.2.2.2.1) (hk.2.2.2.2.1))))))))) | exact ZO)⟩, ⟨by refine ZQ ?_; exact Kd.R_mono HO_719002.out (by first | exact (fun _ hk => (And.intro (hk.1) ((And.intro (hk.2.1) ((And.intro (hk.2.2.1) ((And.intro (hk.2.2.2.1) (hk.2.2.2.2.1))))))))) | exact ZO)⟩, ⟨by refine ZQ ?_; exact Kd.R_mono HO_727001.out (by first | exact (fun _ hk => (And.intro (hk.1) ((And.intro (hk.2.1) ((And.intro (hk.2.2.1) ((And.intro (hk.2.2.2.1) (hk.2.2.2.2.1))))))))) | exact ZO)⟩, ⟨by refine ZQ ?_; exact Kd.R_mono HO_727002.out (by first | exact (fun _ hk => (And.intro (hk.1) ((And.intro (hk.2.1) ((And.intro (hk.2.2.1) ((And.intro (hk.2.2.2.1) (hk.2.2.2.2.1))))))))) | exact ZO)⟩, ⟨ZK BK689⟩, ⟨ZK BK690⟩, ⟨ZK BK718⟩, ⟨ZK BK726⟩, ⟨ZB⟩⟩
         ·rw [if_neg c96] at H
          have c96b0 : decide (t751 < 0) = false := decide_eq_false c96
          clear c96
          (first | rw [c96b0] | (simp only [i64_w, i32_w]; rw [c96b0]) | skip)
          replace H := Option.bind_eq_some_iff.mp H
          obtain ⟨t754, A970, H⟩ := H
          replace H : (if t754 = true then (laws_FnExactConnectJacobi.j1 kj25 a2 t707 t710 t727 (t730 != t710) a0_0 l0_1 l0_2 a1_0 l1_1 l1_2) else (laws_FnExactConnectJacobi.j1 kj25 a2 t707 t710 t727 true a0_0 l0_1 l0_2 a1_0 l1_1 l1_2)) = some r := H
          have A97 := Aside0.mk A970
          clear A970
          by_cases c98 : t754 = true
          ·subst c98
           have H1 : (laws_FnExactConnectJacobi.j1 kj25 a2 t707 t710 t727 (t730 != t710) a0_0 l0_1 l0_2 a1_0 l1_1 l1_2) = some r := by rw [if_pos rfl] at H; exact H
           clear H
           have H := H1
           clear H1
           have H' := Aside0.mk H
           clear H
           obtain ⟨Ao99, co99, eo99⟩ := Kd.R_slice HO_12.out
           subst eo99
           obtain ⟨Ao100, co100, eo100⟩ := Kd.R_slice HO_8.out
           subst eo100
           go_wp2_with (first | (go_at_call 29; (with_reducible refine (laws_eqInt64S.calls kj25 _ _ t727 _ _ t707 true _ ?side1 ?side2 ?side3 ?side4 A97.out).mono ?_); (case side1 => repeat (first | exact (Kd.R_reads' HO_12.out).2.2 | (with_reducible refine Kd.C_alloc ?_ _) | (with_reducible refine Kd.C_drewN ?_ _) | (with_reducible refine Kd.C_drew ?_))); (case side2 => exact (Kd.R_reads' HO_12.out).2.1); (case side3 => repeat (first | exact (Kd.R_reads' HO_8.out).2.2 | (with_reducible refine Kd.C_alloc ?_ _) | (with_reducible refine Kd.C_drewN ?_ _) | (with_reducible refine Kd.C_drew ?_))); (case side4 => exact (Kd.R_reads' HO_8.out).2.1); rintro e w' ⟨rfl, ⟨nd, rfl⟩⟩))
           go_meet
           case rel => exact ⟨_, ((t730 != t710)), (by first | rfl | (simp; done) | (simp [*]; done)), H', ⟨by have := HJ25.out; first | omega | exact Nat.le_refl _⟩, ⟨by refine ZQ ?_; exact Kd.R_mono HO_8.out (by first | exact (fun _ hk => (And.intro (hk.1) ((And.intro (hk.2.1) ((And.intro (hk.2.2.1) ((And.intro (hk.2.2.2.1) (hk.2.2.2.2.1))))))))) | exact ZO)⟩, ⟨by refine ZQ ?_; exact Kd.R_mono HO_12.out (by first | exact (fun _ hk => (And.intro (hk.1) ((And.intro (hk.2.1) ((And.intro (hk.2.2.1) ((And.intro (hk.2.2.2.1) (hk.2.2.2.2.1))))))))) | exact ZO)⟩, ⟨by refine ZQ ?_; exact Kd.R_mono HO_719001.out (by first | exact (fun _ hk => (And.intro (hk.1) ((And.intro (hk.2.1) ((And.intro (hk.2.2.1) ((And.intro (hk.2.2.2.1) (hk.2.2.2.2.1))))))))) | exact ZO)⟩, ⟨by refine ZQ ?_; exact Kd.R_mono HO_719002.out (by first | exact (fun _ hk => (And.intro (hk.1) ((And.intro (hk.2.1) ((And.intro (hk.2.2.1) ((And.intro (hk.2.2.2.1) (hk.2.2.2.2.1))))))))) | exact ZO)⟩, ⟨by refine ZQ ?_; exact Kd.R_mono HO_727001.out (by first | exact (fun _ hk => (And.intro (hk.1) ((And.intro (hk.2.1) ((And.intro (hk.2.2.1) ((And.intro (hk.2.2.2.1) (hk.2.2.2.2.1))))))))) | exact ZO)⟩, ⟨by refine ZQ ?_; exact Kd.R_mono HO_727002.out (by first | exact (fun _ hk => (And.intro (hk.1) ((And.intro (hk.2.1) ((And.intro (hk.2.2.1) ((And.intro (hk.2.2.2.1) (hk.2.2.2.2.1))))))))) | exact ZO)⟩, ⟨ZK BK689⟩, ⟨ZK BK690⟩, ⟨ZK BK718⟩, ⟨ZK BK726⟩, ⟨ZB⟩⟩
          ·replace c98 := Bool.eq_false_iff.mpr c98
           subst c98
           have H1 : (laws_FnExactConnectJacobi.j1 kj25 a2 t707 t710 t727 true a0_0 l0_1 l0_2 a1_0 l1_1 l1_2) = some r := by rw [if_neg (show ¬ (false = true) by decide)] at H; exact H
           clear H
           have H := H1
           clear H1
           have H' := Aside0.mk H
           clear H
           obtain ⟨Ao101, co101, eo101⟩ := Kd.R_slice HO_12.out
           subst eo101
           obtain ⟨Ao102, co102, eo102⟩ := Kd.R_slice HO_8.out
           subst eo102
           go_wp2_with (first | (go_at_call 29; (with_reducible refine (laws_eqInt64S.calls kj25 _ _ t727 _ _ t707 false _ ?side1 ?side2 ?side3 ?side4 A97.out).mono ?_); (case side1 => repeat (first | exact (Kd.R_reads' HO_12.out).2.2 | (with_reducible refine Kd.C_alloc ?_ _) | (with_reducible refine Kd.C_drewN ?_ _) | (with_reducible refine Kd.C_drew ?_))); (case side2 => exact (Kd.R_reads' HO_12.out).2.1); (case side3 => repeat (first | exact (Kd.R_reads' HO_8.out).2.2 | (with_reducible refine Kd.C_alloc ?_ _) | (with_reducible refine Kd.C_drewN ?_ _) | (with_reducible refine Kd.C_drew ?_))); (case side4 => exact (Kd.R_reads' HO_8.out).2.1); rintro e w' ⟨rfl, ⟨nd, rfl⟩⟩))
           go_meet
           case rel => exact ⟨_, (true), (by first | rfl | (simp; done) | (simp [*]; done)), H', ⟨by have := HJ25.out; first | omega | exact Nat.le_refl _⟩, ⟨by refine ZQ ?_; exact Kd.R_mono HO_8.out (by first | exact (fun _ hk => (And.intro (hk.1) ((And.intro (hk.2.1) ((And.intro (hk.2.2.1) ((And.intro (hk.2.2.2.1) (hk.2.2.2.2.1))))))))) | exact ZO)⟩, ⟨by refine ZQ ?_; exact Kd.R_mono HO_12.out (by first | exact (fun _ hk => (And.intro (hk.1) ((And.intro (hk.2.1) ((And.intro (hk.2.2.1) ((And.intro (hk.2.2.2.1) (hk.2.2.2.2.1))))))))) | exact ZO)⟩, ⟨by refine ZQ ?_; exact Kd.R_mono HO_719001.out (by first | exact (fun _ hk => (And.intro (hk.1) ((And.intro (hk.2.1) ((And.intro (hk.2.2.1) ((And.intro (hk.2.2.2.1) (hk.2.2.2.2.1))))))))) | exact ZO)⟩, ⟨by refine ZQ ?_; exact Kd.R_mono HO_719002.out (by first | exact (fun _ hk => (And.intro (hk.1) ((And.intro (hk.2.1) ((And.intro (hk.2.2.1) ((And.intro (hk.2.2.2.1) (hk.2.2.2.2.1))))))))) | exact ZO)⟩, ⟨by refine ZQ ?_; exact Kd.R_mono HO_727001.out (by first | exact (fun _ hk => (And.intro (hk.1) ((And.intro (hk.2.1) ((And.intro (hk.2.2.1) ((And.intro (hk.2.2.2.1) (hk.2.2.2.2.1))))))))) | exact ZO)⟩, ⟨by refine ZQ ?_; exact Kd.R_mono HO_727002.out (by first | exact (fun _ hk => (And.intro (hk.1) ((And.intro (hk.2.1) ((And.intro (hk.2.2.1) ((And.intro (hk.2.2.2.1) (hk.2.2.2.2.1))))))))) | exact ZO)⟩, ⟨ZK BK689⟩, ⟨ZK BK690⟩, ⟨ZK BK718⟩, ⟨ZK BK726⟩, ⟨ZB⟩⟩
        case rest =>
         clear HC76
         try clear c1
         try clear c2
         try clear p2
         try clear c3
         try clear c4
         try clear c5
         try clear c6
         try clear c7
         try clear c8
         try clear c9
         try clear c16
         try clear c19
         try clear c20
         try clear c29
         try clear c32
         try clear c33
         try clear c45
         try clear c46
         try clear c53
         try clear c54
         try clear c55
         try clear c62
         try clear c67
         try clear c70
         try clear c73
         try clear c87
         try clear c88
         try clear c89
         try clear c92
         try clear c93
         try clear c96
         try clear c96b0
         try clear c98
         try clear hcz16_0
         try clear hcz16_1
         try clear hcz16_2
         try clear hcz18_0
         try clear hcz18_1
         try clear hcz18_2
         try clear hcz30_0
         try clear hcz30_1
         try clear hcz30_2
         try clear hcz32_0
         try clear hcz32_1
         try clear hcz32_2
         try clear hcz42_0
         try clear hcz42_1
         try clear hcz42_2
         try clear hcz47_0
         try clear hcz47_1
         try clear hcz47_2
         try clear hcz50_0
         try clear hcz50_1
         try clear hcz50_2
         try clear hcz56_0
         try clear hcz56_1
         try clear hcz56_2
         try clear hcz59_0
         try clear hcz59_1
         try clear hcz59_2
         try clear hcz90_0
         try clear hcz90_1
         try clear hcz90_2
         try clear hcz94_0
         try clear hcz94_1
         try clear hcz94_2
         try clear hcz9_0
         try clear hcz9_1
         try clear hcz9_2
         try clear hfz16_0
         try clear hfz16_1
         try clear hfz16_2
         try clear hfz18_0
         try clear hfz18_1
         try clear hfz18_2
         try clear hfz30_0
         try clear hfz30_1
         try clear hfz30_2
         try clear hfz32_0
         try clear hfz32_1
         try clear hfz32_2
         try clear hfz42_0
         try clear hfz42_1
         try clear hfz42_2
         try clear hfz47_0
         try clear hfz47_1
         try clear hfz47_2
         try clear hfz50_0
         try clear hfz50_1
         try clear hfz50_2
         try clear hfz56_0
         try clear hfz56_1
         try clear hfz56_2
         try clear hfz59_0
         try clear hfz59_1
         try clear hfz59_2
         try clear hfz90_0
         try clear hfz90_1
         try clear hfz90_2
         try clear hfz94_0
         try clear hfz94_1
         try clear hfz94_2
         try clear hfz9_0
         try clear hfz9_1
         try clear hfz9_2
         obtain ⟨kq, x86_75, rfl, HA, HJ75, HO_8, HO_12, HO_719001, HO_719002, HO_727001, HO_727002, BK689, BK690, BK718, BK726, HB⟩ := hcut
         have hl719001_75 := (Kd.R_reads' HO_719001.out).1
         rw [hl719001_75] at HO_719001
         (try simp only [hl719001_75])
         (try simp only [hl719001_75] at BK689)
         (try simp only [hl719001_75] at BK690)
         (try simp only [hl719001_75] at BK718)
         (try simp only [hl719001_75] at BK726)
         (try simp only [hl719001_75] at HO_8)
         (try simp only [hl719001_75] at HO_12)
         (try simp only [hl719001_75] at HO_719002)
         (try simp only [hl719001_75] at HO_727001)
         (try simp only [hl719001_75] at HO_727002)
         have hl719002_75 := (Kd.R_reads' HO_719002.out).1
         rw [hl719002_75] at HO_719002
         (try simp only [hl719002_75])
         (try simp only [hl719002_75] at BK689)
         (try simp only [hl719002_75] at BK690)
         (try simp only [hl719002_75] at BK718)
         (try simp only [hl719002_75] at BK726)
         (try simp only [hl719002_75] at HO_8)
         (try simp only [hl719002_75] at HO_12)
         (try simp only [hl719002_75] at HO_719001)
         (try simp only [hl719002_75] at HO_727001)
         (try simp only [hl719002_75] at HO_727002)
         have hl727001_75 := (Kd.R_reads' HO_727001.out).1
         rw [hl727001_75] at HO_727001
         (try simp only [hl727001_75])
         (try simp only [hl727001_75] at BK689)
         (try simp only [hl727001_75] at BK690)
         (try simp only [hl727001_75] at BK718)
         (try simp only [hl727001_75] at BK726)
         (try simp only [hl727001_75] at HO_8)
         (try simp only [hl727001_75] at HO_12)
         (try simp only [hl727001_75] at HO_719001)
         (try simp only [hl727001_75] at HO_719002)
         (try simp only [hl727001_75] at HO_727002)
         have hl727002_75 := (Kd.R_reads' HO_727002.out).1
         rw [hl727002_75] at HO_727002
         (try simp only [hl727002_75])
         (try simp only [hl727002_75] at BK689)
         (try simp only [hl727002_75] at BK690)
         (try simp only [hl727002_75] at BK718)
         (try simp only [hl727002_75] at BK726)
         (try simp only [hl727002_75] at HO_8)
         (try simp only [hl727002_75] at HO_12)
         (try simp only [hl727002_75] at HO_719001)
         (try simp only [hl727002_75] at HO_719002)
         (try simp only [hl727002_75] at HO_727001)
         cases kq with
         | zero => exact absurd HA.out (by simp [laws_FnExactConnectJacobi.j1])
         | succ kj75 =>
          have H := HA.out
          clear HA
          simp only [laws_FnExactConnectJacobi.j1] at H
          by_cases c103 : x86_75 = true
          ·subst c103
           have H1 : (some false) = some r := by rw [if_pos rfl] at H; exact H
           clear H
           have H := H1
           clear H1
           exact absurd (H.trans (congrArg some hT.out)) (by simp)
          ·replace c103 := Bool.eq_false_iff.mpr c103
           subst c103
           have H1 : ((laws_markInt64S.f kj75 t727 1).bind fun bt755 => ((laws_heldInt64S.f kj75 bt755.2 1).bind fun t757 => (if t757 < 0 then (some false) else (if t757 = bt755.1 then ((laws_toJacobi.f kj75 a0_0 l0_1 l0_2).bind fun bt758 => ((laws_toJacobi.f kj75 a1_0 l1_1 l1_2).bind fun bt765 => ((impl_ConnectJacobi.f kj75 bt758.1 bt758.2.1 bt758.2.2 bt765.1 bt765.2.1 bt765.2.2 a2).bind fun bt772 => ((laws_eqInt64S.f kj75 bt772.1 t707).bind fun t776 => (if t776 = true then (laws_FnExactConnectJacobi.j2 kj75 bt755.2 bt755.1 (bt772.2 != t710)) else (laws_FnExactConnectJacobi.j2 kj75 bt755.2 bt755.1 true)))))) else (some false))))) = some r := by rw [if_neg (show ¬ (false = true) by decide)] at H; exact H
           clear H
           have H := H1
           clear H1
           replace H := Option.bind_eq_some_iff.mp H
           obtain ⟨⟨t755, t756⟩, A1040, H⟩ := H
           replace H : ((laws_heldInt64S.f kj75 t756 1).bind fun t757 => (if t757 < 0 then (some false) else (if t757 = t755 then ((laws_toJacobi.f kj75 a0_0 l0_1 l0_2).bind fun bt758 => ((laws_toJacobi.f kj75 a1_0 l1_1 l1_2).bind fun bt765 => ((impl_ConnectJacobi.f kj75 bt758.1 bt758.2.1 bt758.2.2 bt765.1 bt765.2.1 bt765.2.2 a2).bind fun bt772 => ((laws_eqInt64S.f kj75 bt772.1 t707).bind fun t776 => (if t776 = true then (laws_FnExactConnectJacobi.j2 kj75 t756 t755 (bt772.2 != t710)) else (laws_FnExactConnectJacobi.j2 kj75 t756 t755 true)))))) else (some false)))) = some r := H
           have A104 := Aside0.mk A1040
           clear A1040
           replace H := Option.bind_eq_some_iff.mp H
           obtain ⟨t757, A1050, H⟩ := H
           replace H : (if t757 < 0 then (some false) else (if t757 = t755 then ((laws_toJacobi.f kj75 a0_0 l0_1 l0_2).bind fun bt758 => ((laws_toJacobi.f kj75 a1_0 l1_1 l1_2).bind fun bt765 => ((impl_ConnectJacobi.f kj75 bt758.1 bt758.2.1 bt758.2.2 bt765.1 bt765.2.1 bt765.2.2 a2).bind fun bt772 => ((laws_eqInt64S.f kj75 bt772.1 t707).bind fun t776 => (if t776 = true then (laws_FnExactConnectJacobi.j2 kj75 t756 t755 (bt772.2 != t710)) else (laws_FnExactConnectJacobi.j2 kj75 t756 t755 true)))))) else (some false))) = some r := H
           have A105 := Aside0.mk A1050
           clear A1050
           by_cases c106 : t757 < 0
           ·rw [if_pos c106] at H
            have c106b0 : decide (t757 < 0) = true := decide_eq_true c106
            clear c106
            exact absurd (H.trans (congrArg some hT.out)) (by simp)
           ·rw [if_neg c106] at H
            have c106b0 : decide (t757 < 0) = false := decide_eq_false c106
            clear c106
            by_cases c107 : t757 = t755
            ·rw [if_pos c107] at H
             have c107b0 : (t757 == t755) = true := beq_iff_eq.mpr c107
             have c107b1 : (t757 != t755) = false := bne_eq_false_iff_eq.mpr c107
             clear c107
             replace H := Option.bind_eq_some_iff.mp H
             obtain ⟨⟨t758, t759, t762⟩, A1080, H⟩ := H
             replace H : ((laws_toJacobi.f kj75 a1_0 l1_1 l1_2).bind fun bt765 => ((impl_ConnectJacobi.f kj75 t758 t759 t762 bt765.1 bt765.2.1 bt765.2.2 a2).bind fun bt772 => ((laws_eqInt64S.f kj75 bt772.1 t707).bind fun t776 => (if t776 = true then (laws_FnExactConnectJacobi.j2 kj75 t756 t755 (bt772.2 != t710)) else (laws_FnExactConnectJacobi.j2 kj75 t756 t755 true))))) = some r := H
             have A108 := Aside0.mk A1080
             clear A1080
             replace H := Option.bind_eq_some_iff.mp H
             obtain ⟨⟨t765, t766, t769⟩, A1090, H⟩ := H
             replace H : ((impl_ConnectJacobi.f kj75 t758 t759 t762 t765 t766 t769 a2).bind fun bt772 => ((laws_eqInt64S.f kj75 bt772.1 t707).bind fun t776 => (if t776 = true then (laws_FnExactConnectJacobi.j2 kj75 t756 t755 (bt772.2 != t710)) else (laws_FnExactConnectJacobi.j2 kj75 t756 t755 true)))) = some r := H
             have A109 := Aside0.mk A1090
             clear A1090
             replace H := Option.bind_eq_some_iff.mp H
             obtain ⟨⟨t772, t775⟩, A1100, H⟩ := H
             replace H : ((laws_eqInt64S.f kj75 t772 t707).bind fun t776 => (if t776 = true then (laws_FnExactConnectJacobi.j2 kj75 t756 t755 (t775 != t710)) else (laws_FnExactConnectJacobi.j2 kj75 t756 t755 true))) = some r := H
             have A110 := Aside0.mk A1100
             clear A1100
             have HC111 := Aside0.mk H
             clear H
             obtain ⟨Ao112, co112, eo112⟩ := Kd.R_slice HO_12.out
             subst eo112
             try go_wp2_with (first | ((with_reducible refine gate_callee (f := 30) rfl ?_); refine goesL_ (some 89) rfl rfl Try.func30 (by kernel_rfl) rfl #[.slice Ao112 t727.length co112, .int .i64 1] rfl ZA ?_; (with_reducible refine (laws_markInt64S.calls kj75 (fun k_ => some k_ = (.slice Ao112 t727.length co112 : Value).ownBlock) (.slice Ao112 t727.length co112) t727 1 t755 t756 w _ ?side1 ?side2 A104.out).mono ?_); (case side1 => repeat (first | (with_reducible first | exact HB.out | apply below_alloc | apply pw_below_drewN | apply below_drew1 | refine below_set ?_ GE689.out | refine below_set ?_ GE690.out | refine below_set ?_ GE718.out | refine below_set ?_ GE726.out) | exact HB.out)); (case side2 => exact Kd.R_tight rfl HO_12.out); rintro e w113 ⟨rfl, hy0, hb, hkp⟩; refine ⟨_, rfl, ?_⟩; have n0_ := Aside0.mk (Kd.R_mono (ok' := fun k_ => some k_ ≠ (.slice Ao112 t727.length co112 : Value).ownBlock ∧ some k_ ≠ (.slice Ao48 t749.length co48 : Value).ownBlock ∧ some k_ ≠ (.slice Ao49 t750.length co49 : Value).ownBlock ∧ some k_ ≠ (.slice Ao57 t752.length co57 : Value).ownBlock ∧ some k_ ≠ (.slice Ao58 t753.length co58 : Value).ownBlock) (Kd.R_keptB (HO_8.out) hkp (fun k_ hk_ hs_ => (hk_.1) hs_)) (fun k_ hk_ => ⟨hk_.1.1, hk_.1.2.1, hk_.1.2.2.1, hk_.1.2.2.2.1, hk_.1.2.2.2.2⟩)); have n1_ := Aside0.mk (Kd.R_reok rfl hy0 (fun k_ e_ => HO_12.out.1 k_ e_)); have n2_ := Aside0.mk (Kd.R_mono (ok' := fun k_ => some k_ ≠ (v708 : Value).ownBlock ∧ some k_ ≠ (.slice Ao112 t727.length co112 : Value).ownBlock ∧ some k_ ≠ (.slice Ao49 t750.length co49 : Value).ownBlock ∧ some k_ ≠ (.slice Ao57 t752.length co57 : Value).ownBlock ∧ some k_ ≠ (.slice Ao58 t753.length co58 : Value).ownBlock) (Kd.R_keptB (HO_719001.out) hkp (fun k_ hk_ hs_ => (hk_.2.1) hs_)) (fun k_ hk_ => ⟨hk_.1.1, hk_.1.2.1, hk_.1.2.2.1, hk_.1.2.2.2.1, hk_.1.2.2.2.2⟩)); have n3_ := Aside0.mk (Kd.R_mono (ok' := fun k_ => some k_ ≠ (v708 : Value).ownBlock ∧ some k_ ≠ (.slice Ao112 t727.length co112 : Value).ownBlock ∧ some k_ ≠ (.slice Ao48 t749.length co48 : Value).ownBlock ∧ some k_ ≠ (.slice Ao57 t752.length co57 : Value).ownBlock ∧ some k_ ≠ (.slice Ao58 t753.length co58 : Value).ownBlock) (Kd.R_keptB (HO_719002.out) hkp (fun k_ hk_ hs_ => (hk_.2.1) hs_)) (fun k_ hk_ => ⟨hk_.1.1, hk_.1.2.1, hk_.1.2.2.1, hk_.1.2.2.2.1, hk_.1.2.2.2.2⟩)); have n4_ := Aside0.mk (Kd.R_mono (ok' := fun k_ => some k_ ≠ (v708 : Value).ownBlock ∧ some k_ ≠ (.slice Ao112 t727.length co112 : Value).ownBlock ∧ some k_ ≠ (.slice Ao48 t749.length co48 : Value).ownBlock ∧ some k_ ≠ (.slice Ao49 t750.length co49 : Value).ownBlock ∧ some k_ ≠ (.slice Ao58 t753.length co58 : Value).ownBlock) (Kd.R_keptB (HO_727001.out) hkp (fun k_ hk_ hs_ => (hk_.2.1) hs_)) (fun k_ hk_ => ⟨hk_.1.1, hk_.1.2.1, hk_.1.2.2.1, hk_.1.2.2.2.1, hk_.1.2.2.2.2⟩)); have n5_ := Aside0.mk (Kd.R_mono (ok' := fun k_ => some k_ ≠ (v708 : Value).ownBlock ∧ some k_ ≠ (.slice Ao112 t727.length co112 : Value).ownBlock ∧ some k_ ≠ (.slice Ao48 t749.length co48 : Value).ownBlock ∧ some k_ ≠ (.slice Ao49 t750.length co49 : Value).ownBlock ∧ some k_ ≠ (.slice Ao57 t752.length co57 : Value).ownBlock) (Kd.R_keptB (HO_727002.out) hkp (fun k_ hk_ hs_ => (hk_.2.1) hs_)) (fun k_ hk_ => ⟨hk_.1.1, hk_.1.2.1, hk_.1.2.2.1, hk_.1.2.2.2.1, hk_.1.2.2.2.2⟩)); have n6_ := Aside0.mk (blk_kept (ZK BK689) hkp (fun hs_ => (fun e_ => (Kd.R_ne HO_12.out BK689.out (by decide)) e_) hs_)); have n7_ := Aside0.mk (blk_kept (ZK BK690) hkp (fun hs_ => (fun e_ => (Kd.R_ne HO_12.out BK690.out (by decide)) e_) hs_)); have n8_ := Aside0.mk (blk_kept (ZK BK718) hkp (fun hs_ => (fun e_ => (Kd.R_ne HO_12.out BK718.out (by decide)) e_) hs_)); have n9_ := Aside0.mk (blk_kept (ZK BK726) hkp (fun hs_ => (fun e_ => (Kd.R_ne HO_12.out BK726.out (by decide)) e_) hs_)); have n10_ := Aside0.mk (hb); clear HO_8; clear HO_12; clear HO_719001; clear HO_719002; clear HO_727001; clear HO_727002; clear BK689; clear BK690; clear BK718; clear BK726; clear HB; have HO_8 := n0_; have HO_12 := n1_; have HO_719001 := n2_; have HO_719002 := n3_; have HO_727001 := n4_; have HO_727002 := n5_; have BK689 := n6_; have BK690 := n7_; have BK718 := n8_; have BK726 := n9_; have HB := n10_; clear n0_ n1_ n2_ n3_ n4_ n5_ n6_ n7_ n8_ n9_ n10_; (try clear hb); (try clear hkp); (try clear hy0)) | ((with_reducible refine gate_callee (f := 31) rfl ?_); refine goesL_ (some 92) rfl rfl Try.func31 (by kernel_rfl) rfl #[.slice Ao112 t756.length co112, .int .i64 1] rfl (by (try simp only [List.map_toArray, List.map_cons, List.map_nil]); first | done | (rw [show t756.length = t727.length from (Kd.R_reads' HO_12.out).1.symm] <;> rfl) | rfl | (simp only [List.length_drop, List.length_take]; rfl)) ?_; (with_reducible refine (laws_heldInt64S.calls kj75 _ _ t756 1 t757 _ ?side1 ?side2 A105.out).mono ?_); (case side1 => repeat (first | exact (Kd.R_reads' HO_12.out).2.2 | (with_reducible refine Kd.C_alloc ?_ _) | (with_reducible refine Kd.C_drewN ?_ _) | (with_reducible refine Kd.C_drew ?_))); (case side2 => rw [show t756.length = t727.length from (Kd.R_reads' HO_12.out).1.symm]; exact (Kd.R_reads' HO_12.out).2.1); rintro e w' ⟨rfl, ⟨nd, rfl⟩⟩; refine ⟨_, rfl, ?_⟩))
             (try (rw [drewN_self w113]; generalize hq_ : World.drewN w113 _ = w113; have n0_ : Aside0 (Kd.R (Kd.int .i64) 2 w113 w.heap.size (fun k_ => some k_ ≠ (.slice Ao48 t749.length co48 : Value).ownBlock ∧ some k_ ≠ (.slice Ao49 t750.length co49 : Value).ownBlock ∧ some k_ ≠ (.slice Ao57 t752.length co57 : Value).ownBlock ∧ some k_ ≠ (.slice Ao58 t753.length co58 : Value).ownBlock ∧ some k_ ≠ (v708 : Value).ownBlock) (.slice Ao112 t727.length co112) t756) := ⟨by rw [← hq_]; exact (by refine ZQ ?_; exact Kd.R_mono HO_12.out (by first | exact (fun _ hk => (And.intro (hk.2.1) ((And.intro (hk.2.2.1) ((And.intro (hk.2.2.2.1) ((And.intro (hk.2.2.2.2) (hk.1))))))))) | exact ZO))⟩; have n1_ : Aside0 (Kd.R (Kd.int .i64) 2 w113 w.heap.size (fun k_ => some k_ ≠ (.slice Ao112 t727.length co112 : Value).ownBlock ∧ some k_ ≠ (.slice Ao49 t750.length co49 : Value).ownBlock ∧ some k_ ≠ (.slice Ao57 t752.length co57 : Value).ownBlock ∧ some k_ ≠ (.slice Ao58 t753.length co58 : Value).ownBlock ∧ some k_ ≠ (v708 : Value).ownBlock) (.slice Ao48 t749.length co48) t749) := ⟨by rw [← hq_]; exact (by refine ZQ ?_; exact Kd.R_mono HO_719001.out (by first | exact (fun _ hk => (And.intro (hk.2.1) ((And.intro (hk.2.2.1) ((And.intro (hk.2.2.2.1) ((And.intro (hk.2.2.2.2) (hk.1))))))))) | exact ZO))⟩; have n2_ : Aside0 (Kd.R (Kd.int .i64) 2 w113 w.heap.size (fun k_ => some k_ ≠ (.slice Ao112 t727.length co112 : Value).ownBlock ∧ some k_ ≠ (.slice Ao48 t749.length co48 : Value).ownBlock ∧ some k_ ≠ (.slice Ao57 t752.length co57 : Value).ownBlock ∧ some k_ ≠ (.slice Ao58 t753.length co58 : Value).ownBlock ∧ some k_ ≠ (v708 : Value).ownBlock) (.slice Ao49 t750.length co49) t750) := ⟨by rw [← hq_]; exact (by refine ZQ ?_; exact Kd.R_mono HO_719002.out (by first | exact (fun _ hk => (And.intro (hk.2.1) ((And.intro (hk.2.2.1) ((And.intro (hk.2.2.2.1) ((And.intro (hk.2.2.2.2) (hk.1))))))))) | exact ZO))⟩; have n3_ : Aside0 (Kd.R (Kd.int .i64) 2 w113 w.heap.size (fun k_ => some k_ ≠ (.slice Ao112 t727.length co112 : Value).ownBlock ∧ some k_ ≠ (.slice Ao48 t749.length co48 : Value).ownBlock ∧ some k_ ≠ (.slice Ao49 t750.length co49 : Value).ownBlock ∧ some k_ ≠ (.slice Ao58 t753.length co58 : Value).ownBlock ∧ some k_ ≠ (v708 : Value).ownBlock) (.slice Ao57 t752.length co57) t752) := ⟨by rw [← hq_]; exact (by refine ZQ ?_; exact Kd.R_mono HO_727001.out (by first | exact (fun _ hk => (And.intro (hk.2.1) ((And.intro (hk.2.2.1) ((And.intro (hk.2.2.2.1) ((And.intro (hk.2.2.2.2) (hk.1))))))))) | exact ZO))⟩; have n4_ : Aside0 (Kd.R (Kd.int .i64) 2 w113 w.heap.size (fun k_ => some k_ ≠ (.slice Ao112 t727.length co112 : Value).ownBlock ∧ some k_ ≠ (.slice Ao48 t749.length co48 : Value).ownBlock ∧ some k_ ≠ (.slice Ao49 t750.length co49 : Value).ownBlock ∧ some k_ ≠ (.slice Ao57 t752.length co57 : Value).ownBlock ∧ some k_ ≠ (v708 : Value).ownBlock) (.slice Ao58 t753.length co58) t753) := ⟨by rw [← hq_]; exact (by refine ZQ ?_; exact Kd.R_mono HO_727002.out (by first | exact (fun _ hk => (And.intro (hk.2.1) ((And.intro (hk.2.2.1) ((And.intro (hk.2.2.2.1) ((And.intro (hk.2.2.2.2) (hk.1))))))))) | exact ZO))⟩; have n5_ : Aside0 (Kd.R (Kd.int .i64) 2 w113 w.heap.size (fun k_ => some k_ ≠ (.slice Ao112 t727.length co112 : Value).ownBlock ∧ some k_ ≠ (.slice Ao48 t749.length co48 : Value).ownBlock ∧ some k_ ≠ (.slice Ao49 t750.length co49 : Value).ownBlock ∧ some k_ ≠ (.slice Ao57 t752.length co57 : Value).ownBlock ∧ some k_ ≠ (.slice Ao58 t753.length co58 : Value).ownBlock) v708 t707) := ⟨by rw [← hq_]; exact (ZR HO_8)⟩; have n6_ : Aside0 (w113.heap[gb689]? = some (.cells #[.int .i64 a0_0, .slice A0_1 l0_1.length c0_1, .slice A0_2 l0_2.length c0_2] 24 (0, 0))) := ⟨by rw [← hq_]; exact (ZK BK689)⟩; have n7_ : Aside0 (w113.heap[gb690]? = some (.cells #[.int .i64 a1_0, .slice A1_1 l1_1.length c1_1, .slice A1_2 l1_2.length c1_2] 24 (0, 0))) := ⟨by rw [← hq_]; exact (ZK BK690)⟩; have n8_ : Aside0 (w113.heap[gb718]? = some (.cells #[.int .i64 t711, .slice Ao48 t749.length co48, .slice Ao49 t750.length co49] 29 (0, 0))) := ⟨by rw [← hq_]; exact (ZK BK718)⟩; have n9_ : Aside0 (w113.heap[gb726]? = some (.cells #[.int .i64 t719, .slice Ao57 t752.length co57, .slice Ao58 t753.length co58] 29 (0, 0))) := ⟨by rw [← hq_]; exact (ZK BK726)⟩; have n10_ : Aside0 (Below w.heap.size w w113) := ⟨by rw [← hq_]; exact ZB⟩; clear HO_12 HO_719001 HO_719002 HO_727001 HO_727002 HO_8 BK689 BK690 BK718 BK726 HB hq_; have HO_12 := n0_; have HO_719001 := n1_; have HO_719002 := n2_; have HO_727001 := n3_; have HO_727002 := n4_; have HO_8 := n5_; have BK689 := n6_; have BK690 := n7_; have BK718 := n8_; have BK726 := n9_; have HB := n10_; clear n0_ n1_ n2_ n3_ n4_ n5_ n6_ n7_ n8_ n9_ n10_))
             (try (obtain ⟨hcy689_0, hcy689_1, hcy689_2, hfy689_0, hfy689_1, hfy689_2⟩ := ZD3 BK689))
             (try (obtain ⟨hcy690_0, hcy690_1, hcy690_2, hfy690_0, hfy690_1, hfy690_2⟩ := ZD3 BK690))
             (try (obtain ⟨hcy718_0, hcy718_1, hcy718_2, hfy718_0, hfy718_1, hfy718_2⟩ := ZD3 BK718))
             (try (obtain ⟨hcy726_0, hcy726_1, hcy726_2, hfy726_0, hfy726_1, hfy726_2⟩ := ZD3 BK726))
             have n0_ := Aside0.mk (Kd.R_drew HO_8.out)
             have n1_ := Aside0.mk (Kd.R_drew HO_12.out)
             have n2_ := Aside0.mk (Kd.R_drew HO_719001.out)
             have n3_ := Aside0.mk (Kd.R_drew HO_719002.out)
             have n4_ := Aside0.mk (Kd.R_drew HO_727001.out)
             have n5_ := Aside0.mk (Kd.R_drew HO_727002.out)
             have n6_ := Aside0.mk (blk_drew BK689.out)
             have n7_ := Aside0.mk (blk_drew BK690.out)
             have n8_ := Aside0.mk (blk_drew BK718.out)
             have n9_ := Aside0.mk (blk_drew BK726.out)
             have n10_ := Aside0.mk (below_drew1 HB.out)
             clear HO_8
             clear HO_12
             clear HO_719001
             clear HO_719002
             clear HO_727001
             clear HO_727002
             clear BK689
             clear BK690
             clear BK718
             clear BK726
             clear HB
             have HO_8 := n0_
             have HO_12 := n1_
             have HO_719001 := n2_
             have HO_719002 := n3_
             have HO_727001 := n4_
             have HO_727002 := n5_
             have BK689 := n6_
             have BK690 := n7_
             have BK718 := n8_
             have BK726 := n9_
             have HB := n10_
             clear n0_ n1_ n2_ n3_ n4_ n5_ n6_ n7_ n8_ n9_ n10_
             refine start_ (n := 11) (S := fun w' => w'.cell? ⟨gb689, 0, none⟩ = some (.int .i64 a0_0) ∧ w'.cell? ⟨gb689, 1, none⟩ = some (.slice A0_1 l0_1.length c0_1) ∧ w'.cell? ⟨gb689, 2, none⟩ = some (.slice A0_2 l0_2.length c0_2) ∧ w'.cell? ⟨gb690, 0, none⟩ = some (.int .i64 a1_0) ∧ w'.cell? ⟨gb690, 1, none⟩ = some (.slice A1_1 l1_1.length c1_1) ∧ w'.cell? ⟨gb690, 2, none⟩ = some (.slice A1_2 l1_2.length c1_2)) (ds := []) #[false, false, false, false, false, false, false, false, false, false, false] (by kernel_rfl) rfl rfl ⟨(blk_cell BK689.out 0).trans rfl, (blk_cell BK689.out 1).trans rfl, (blk_cell BK689.out 2).trans rfl, (blk_cell BK690.out 0).trans rfl, (blk_cell BK690.out 1).trans rfl, (blk_cell BK690.out 2).trans rfl⟩ (fun hHeld => ?_); refine with_tabW laws_FnExactConnectJacobi.tab31 laws_FnExactConnectJacobi.bits31 (fun HT_ HW_ => ?_)
             generalize w113.drew = w114 at HO_8 HO_12 HO_719001 HO_719002 HO_727001 HO_727002 BK689 BK690 BK718 BK726 HB hHeld ⊢
             refine Zpt 4 (some 103) (h := ?_)
             refine ZtW6 0 (some 99) hHeld (h := ?_)
             refine ZtW6 2 (some 101) hHeld (h := ?_)
             refine one_ (i := 1) (N := some 100) #[true, true, true, false, true, false, false, false, false, false, false] rfl rfl (one_of HT_.out (by kernel_rfl)) (by decide) (fun K hK => ?_)
             refine goes_ Try.func16 (by kernel_rfl) rfl #[.agg #[.int .i64 a0_0, .slice A0_1 l0_1.length c0_1, .slice A0_2 l0_2.length c0_2]] (by rfl) rfl rfl ZA ?_
             with_reducible refine (laws_toJacobi.calls kj75 a0_0 _ _ l0_1 _ _ l0_2 t758 t759 t762 _ ?side1 ?side2 ?side3 ?side4 A108.out).mono ?_
             (case side1 => exact ZC HR0_1)
             (case side2 => exact HC0_1.out)
             (case side3 => exact ZC HR0_2)
             (case side4 => exact HC0_2.out)
             rintro e w115 ⟨v760, v763, rfl, ho0, ho1, hb⟩
             refine ⟨_, rfl, ?_⟩
             have n0_ := Aside0.mk (Kd.R_mono (Kd.R_told (Kd.R_told (Kd.R_old (ZR HO_8) hb) (Kd.R_base ho0)) (Kd.R_base ho1)) (fun _ h_ => h_.1))
             have n1_ := Aside0.mk (Kd.R_mono (Kd.R_told (Kd.R_told (Kd.R_old (ZR HO_12) hb) (Kd.R_base ho0)) (Kd.R_base ho1)) (fun _ h_ => h_.1))
             have n2_ := Aside0.mk (Kd.R_mono (Kd.R_told (Kd.R_told (Kd.R_old (ZR HO_719001) hb) (Kd.R_base ho0)) (Kd.R_base ho1)) (fun _ h_ => h_.1))
             have n3_ := Aside0.mk (Kd.R_mono (Kd.R_told (Kd.R_told (Kd.R_old (ZR HO_719002) hb) (Kd.R_base ho0)) (Kd.R_base ho1)) (fun _ h_ => h_.1))
             have n4_ := Aside0.mk (Kd.R_mono (Kd.R_told (Kd.R_told (Kd.R_old (ZR HO_727001) hb) (Kd.R_base ho0)) (Kd.R_base ho1)) (fun _ h_ => h_.1))
             have n5_ := Aside0.mk (Kd.R_mono (Kd.R_told (Kd.R_told (Kd.R_old (ZR HO_727002) hb) (Kd.R_base ho0)) (Kd.R_base ho1)) (fun _ h_ => h_.1))
             have n6_ := Aside0.mk (Kd.R_lower (Kd.R_new' (Kd.R_new' (Kd.R_new' (Kd.R_new' (Kd.R_new' (Kd.R_new' ho0 (Kd.R_lt (ZR HO_8))) (Kd.R_lt (ZR HO_12))) (Kd.R_lt (ZR HO_719001))) (Kd.R_lt (ZR HO_719002))) (Kd.R_lt (ZR HO_727001))) (Kd.R_lt (ZR HO_727002))) (below_size ZB))
             have n7_ := Aside0.mk (Kd.R_lower (Kd.R_new' (Kd.R_new' (Kd.R_new' (Kd.R_new' (Kd.R_new' (Kd.R_new' ho1 (Kd.R_lt (ZR HO_8))) (Kd.R_lt (ZR HO_12))) (Kd.R_lt (ZR HO_719001))) (Kd.R_lt (ZR HO_719002))) (Kd.R_lt (ZR HO_727001))) (Kd.R_lt (ZR HO_727002))) (below_size ZB))
             have n8_ := ZL BK689 hb
             have n9_ := ZL BK690 hb
             have n10_ := ZL BK718 hb
             have n11_ := ZL BK726 hb
             have n12_ := Aside0.mk (below_step ZB hb)
             clear HO_8
             clear HO_12
             clear HO_719001
             clear HO_719002
             clear HO_727001
             clear HO_727002
             clear BK689
             clear BK690
             clear BK718
             clear BK726
             clear HB
             have HO_8 := n0_
             have HO_12 := n1_
             have HO_719001 := n2_
             have HO_719002 := n3_
             have HO_727001 := n4_
             have HO_727002 := n5_
             have HO761 := n6_
             have HO764 := n7_
             have BK689 := n8_
             have BK690 := n9_
             have BK718 := n10_
             have BK726 := n11_
             have HB := n12_
             clear n0_ n1_ n2_ n3_ n4_ n5_ n6_ n7_ n8_ n9_ n10_ n11_ n12_
             (try clear hb)
             (try clear hb2)
             (try clear hk)
             (try clear hi)
             (try clear ho0)
             (try clear ho1)
             refine hK.out _ _ ⟨(blk_cell BK689.out 0).trans rfl, (blk_cell BK689.out 1).trans rfl, (blk_cell BK689.out 2).trans rfl, (blk_cell BK690.out 0).trans rfl, (blk_cell BK690.out 1).trans rfl, (blk_cell BK690.out 2).trans rfl⟩ (fun hHeld => ?_)
             clear hK K
             refine norm_ (a' := ?_) ?_ ?_
             rotate_left
             ·show Act.put _ (some 100) _ = _
              simp only [Act.put, List.setIfInBounds_toArray, List.set_cons_zero, List.set_cons_succ, i64_w, i32_w]
              rfl
             refine one_ (i := 3) (N := some 102) #[true, true, true, true, true, false, false, false, false, false, false] rfl rfl (one_of HT_.out (by kernel_rfl)) (by decide) (fun K hK => ?_)
             refine goes_ Try.func16 (by kernel_rfl) rfl #[.agg #[.int .i64 a1_0, .slice A1_1 l1_1.length c1_1, .slice A1_2 l1_2.length c1_2]] (by rfl) rfl rfl ZA ?_
             with_reducible refine (laws_toJacobi.calls kj75 a1_0 _ _ l1_1 _ _ l1_2 t765 t766 t769 _ ?side1 ?side2 ?side3 ?side4 A109.out).mono ?_
             (case side1 => exact ZC HR1_1)
             (case side2 => exact HC1_1.out)
             (case side3 => exact ZC HR1_2)
             (case side4 => exact HC1_2.out)
             rintro e w116 ⟨v767, v770, rfl, ho0, ho1, hb⟩
             refine ⟨_, rfl, ?_⟩
             have n0_ := Aside0.mk (Kd.R_mono (Kd.R_told (Kd.R_told (Kd.R_old (ZR HO_8) hb) (Kd.R_base ho0)) (Kd.R_base ho1)) (fun _ h_ => h_.1))
             have n1_ := Aside0.mk (Kd.R_mono (Kd.R_told (Kd.R_told (Kd.R_old (ZR HO_12) hb) (Kd.R_base ho0)) (Kd.R_base ho1)) (fun _ h_ => h_.1))
             have n2_ := Aside0.mk (Kd.R_mono (Kd.R_told (Kd.R_told (Kd.R_old (ZR HO_719001) hb) (Kd.R_base ho0)) (Kd.R_base ho1)) (fun _ h_ => h_.1))
             have n3_ := Aside0.mk (Kd.R_mono (Kd.R_told (Kd.R_told (Kd.R_old (ZR HO_719002) hb) (Kd.R_base ho0)) (Kd.R_base ho1)) (fun _ h_ => h_.1))
             have n4_ := Aside0.mk (Kd.R_mono (Kd.R_told (Kd.R_told (Kd.R_old (ZR HO_727001) hb) (Kd.R_base ho0)) (Kd.R_base ho1)) (fun _ h_ => h_.1))
             have n5_ := Aside0.mk (Kd.R_mono (Kd.R_told (Kd.R_told (Kd.R_old (ZR HO_727002) hb) (Kd.R_base ho0)) (Kd.R_base ho1)) (fun _ h_ => h_.1))
             have n6_ := Aside0.mk (Kd.R_mono (Kd.R_told (Kd.R_told (Kd.R_old (ZR HO761) hb) (Kd.R_base ho0)) (Kd.R_base ho1)) (fun _ h_ => h_.1))
             have n7_ := Aside0.mk (Kd.R_mono (Kd.R_told (Kd.R_told (Kd.R_old (ZR HO764) hb) (Kd.R_base ho0)) (Kd.R_base ho1)) (fun _ h_ => h_.1))
             have n8_ := Aside0.mk (Kd.R_lower (Kd.R_new' (Kd.R_new' (Kd.R_new' (Kd.R_new' (Kd.R_new' (Kd.R_new' (Kd.R_new' (Kd.R_new' ho0 (Kd.R_lt (ZR HO_8))) (Kd.R_lt (ZR HO_12))) (Kd.R_lt (ZR HO_719001))) (Kd.R_lt (ZR HO_719002))) (Kd.R_lt (ZR HO_727001))) (Kd.R_lt (ZR HO_727002))) (Kd.R_lt (ZR HO761))) (Kd.R_lt (ZR HO764))) (below_size ZB))
             have n9_ := Aside0.mk (Kd.R_lower (Kd.R_new' (Kd.R_new' (Kd.R_new' (Kd.R_new' (Kd.R_new' (Kd.R_new' (Kd.R_new' (Kd.R_new' ho1 (Kd.R_lt (ZR HO_8))) (Kd.R_lt (ZR HO_12))) (Kd.R_lt (ZR HO_719001))) (Kd.R_lt (ZR HO_719002))) (Kd.R_lt (ZR HO_727001))) (Kd.R_lt (ZR HO_727002))) (Kd.R_lt (ZR HO761))) (Kd.R_lt (ZR HO764))) (below_size ZB))
             have n10_ := ZL BK689 hb
             have n11_ := ZL BK690 hb
             have n12_ := ZL BK718 hb
             have n13_ := ZL BK726 hb
             have n14_ := Aside0.mk (below_step ZB hb)
             clear HO_8
             clear HO_12
             clear HO_719001
             clear HO_719002
             clear HO_727001
             clear HO_727002
             clear HO761
             clear HO764
             clear BK689
             clear BK690
             clear BK718
             clear BK726
             clear HB
             have HO_8 := n0_
             have HO_12 := n1_
             have HO_719001 := n2_
             have HO_719002 := n3_
             have HO_727001 := n4_
             have HO_727002 := n5_
             have HO761 := n6_
             have HO764 := n7_
             have HO768 := n8_
             have HO771 := n9_
             have BK689 := n10_
             have BK690 := n11_
             have BK718 := n12_
             have BK726 := n13_
             have HB := n14_
             clear n0_ n1_ n2_ n3_ n4_ n5_ n6_ n7_ n8_ n9_ n10_ n11_ n12_ n13_ n14_
             (try clear hb)
             (try clear hb2)
             (try clear hk)
             (try clear hi)
             (try clear ho0)
             (try clear ho1)
             obtain ⟨Ao117, co117, eo117⟩ := Kd.R_slice HO761.out
             (first | subst eo117 | (injection eo117 with f1_ f2_ f3_; have f4_ := f1_.symm; have f5_ := f3_.symm; clear f1_ f2_ f3_; subst f4_; subst f5_))
             obtain ⟨Ao118, co118, eo118⟩ := Kd.R_slice HO764.out
             (first | subst eo118 | (injection eo118 with f1_ f2_ f3_; have f4_ := f1_.symm; have f5_ := f3_.symm; clear f1_ f2_ f3_; subst f4_; subst f5_))
             obtain ⟨Ao119, co119, eo119⟩ := Kd.R_slice HO768.out
             (first | subst eo119 | (injection eo119 with f1_ f2_ f3_; have f4_ := f1_.symm; have f5_ := f3_.symm; clear f1_ f2_ f3_; subst f4_; subst f5_))
             obtain ⟨Ao120, co120, eo120⟩ := Kd.R_slice HO771.out
             (first | subst eo120 | (injection eo120 with f1_ f2_ f3_; have f4_ := f1_.symm; have f5_ := f3_.symm; clear f1_ f2_ f3_; subst f4_; subst f5_))
             refine hK.out _ _ ⟨(blk_cell BK689.out 0).trans rfl, (blk_cell BK689.out 1).trans rfl, (blk_cell BK689.out 2).trans rfl, (blk_cell BK690.out 0).trans rfl, (blk_cell BK690.out 1).trans rfl, (blk_cell BK690.out 2).trans rfl⟩ (fun hHeld => ?_)
             clear hK K
             refine norm_ (a' := ?_) ?_ ?_
             rotate_left
             ·show Act.put _ (some 102) _ = _
              simp only [Act.put, List.setIfInBounds_toArray, List.set_cons_zero, List.set_cons_succ, i64_w, i32_w]
              rfl
             refine one_ (i := 5) (N := some 104) #[true, true, true, true, true, true, false, false, false, false, false] rfl rfl (one_of HT_.out (by kernel_rfl)) (by decide) (fun K hK => ?_)
             refine goes_ Try.func33 (by kernel_rfl) rfl #[.agg #[.int .i64 t758, .slice Ao117 t759.length co117, .slice Ao118 t762.length co118], .agg #[.int .i64 t765, .slice Ao119 t766.length co119, .slice Ao120 t769.length co120], .int .i64 a2] (by rfl) rfl rfl ZA ?_
             with_reducible refine (impl_ConnectJacobi.calls kj75 t758 _ _ t759 _ _ t762 t765 _ _ t766 _ _ t769 a2 t772 t775 _ ?side1 ?side2 ?side3 ?side4 ?side5 ?side6 ?side7 ?side8 A110.out).mono ?_
             (case side1 => repeat (first | exact (Kd.R_reads' HO761.out).2.2 | (with_reducible refine Kd.C_alloc ?_ _) | (with_reducible refine Kd.C_drewN ?_ _) | (with_reducible refine Kd.C_drew ?_)))
             (case side2 => exact (Kd.R_reads' HO761.out).2.1)
             (case side3 => repeat (first | exact (Kd.R_reads' HO764.out).2.2 | (with_reducible refine Kd.C_alloc ?_ _) | (with_reducible refine Kd.C_drewN ?_ _) | (with_reducible refine Kd.C_drew ?_)))
             (case side4 => exact (Kd.R_reads' HO764.out).2.1)
             (case side5 => repeat (first | exact (Kd.R_reads' HO768.out).2.2 | (with_reducible refine Kd.C_alloc ?_ _) | (with_reducible refine Kd.C_drewN ?_ _) | (with_reducible refine Kd.C_drew ?_)))
             (case side6 => exact (Kd.R_reads' HO768.out).2.1)
             (case side7 => repeat (first | exact (Kd.R_reads' HO771.out).2.2 | (with_reducible refine Kd.C_alloc ?_ _) | (with_reducible refine Kd.C_drewN ?_ _) | (with_reducible refine Kd.C_drew ?_)))
             (case side8 => exact (Kd.R_reads' HO771.out).2.1)
             rintro e w121 ⟨v773, rfl, ho0, hb⟩
             refine ⟨_, rfl, ?_⟩
             have n0_ := Aside0.mk (Kd.R_elder' (ZR HO_8) (Kd.R_base ho0) hb)
             have n1_ := Aside0.mk (Kd.R_elder' (ZR HO_12) (Kd.R_base ho0) hb)
             have n2_ := Aside0.mk (Kd.R_elder' (ZR HO_719001) (Kd.R_base ho0) hb)
             have n3_ := Aside0.mk (Kd.R_elder' (ZR HO_719002) (Kd.R_base ho0) hb)
             have n4_ := Aside0.mk (Kd.R_elder' (ZR HO_727001) (Kd.R_base ho0) hb)
             have n5_ := Aside0.mk (Kd.R_elder' (ZR HO_727002) (Kd.R_base ho0) hb)
             have n6_ := Aside0.mk (Kd.R_elder' (ZR HO761) (Kd.R_base ho0) hb)
             have n7_ := Aside0.mk (Kd.R_elder' (ZR HO764) (Kd.R_base ho0) hb)
             have n8_ := Aside0.mk (Kd.R_elder' (ZR HO768) (Kd.R_base ho0) hb)
             have n9_ := Aside0.mk (Kd.R_elder' (ZR HO771) (Kd.R_base ho0) hb)
             have n10_ := Aside0.mk (Kd.R_lower (Kd.R_new' (Kd.R_new' (Kd.R_new' (Kd.R_new' (Kd.R_new' (Kd.R_new' (Kd.R_new' (Kd.R_new' (Kd.R_new' (Kd.R_new' ho0 (Kd.R_lt (ZR HO_8))) (Kd.R_lt (ZR HO_12))) (Kd.R_lt (ZR HO_719001))) (Kd.R_lt (ZR HO_719002))) (Kd.R_lt (ZR HO_727001))) (Kd.R_lt (ZR HO_727002))) (Kd.R_lt (ZR HO761))) (Kd.R_lt (ZR HO764))) (Kd.R_lt (ZR HO768))) (Kd.R_lt (ZR HO771))) (below_size ZB))
             have n11_ := ZL BK689 hb
             have n12_ := ZL BK690 hb
             have n13_ := ZL BK718 hb
             have n14_ := ZL BK726 hb
             have n15_ := Aside0.mk (below_step ZB hb)
             clear HO_8
             clear HO_12
             clear HO_719001
             clear HO_719002
             clear HO_727001
             clear HO_727002
             clear HO761
             clear HO764
             clear HO768
             clear HO771
             clear BK689
             clear BK690
             clear BK718
             clear BK726
             clear HB
             have HO_8 := n0_
             have HO_12 := n1_
             have HO_719001 := n2_
             have HO_719002 := n3_
             have HO_727001 := n4_
             have HO_727002 := n5_
             have HO761 := n6_
             have HO764 := n7_
             have HO768 := n8_
             have HO771 := n9_
             have HO774 := n10_
             have BK689 := n11_
             have BK690 := n12_
             have BK718 := n13_
             have BK726 := n14_
             have HB := n15_
             clear n0_ n1_ n2_ n3_ n4_ n5_ n6_ n7_ n8_ n9_ n10_ n11_ n12_ n13_ n14_ n15_
             (try clear hb)
             (try clear hb2)
             (try clear hk)
             (try clear hi)
             (try clear ho0)
             refine hK.out _ _ ⟨(blk_cell BK689.out 0).trans rfl, (blk_cell BK689.out 1).trans rfl, (blk_cell BK689.out 2).trans rfl, (blk_cell BK690.out 0).trans rfl, (blk_cell BK690.out 1).trans rfl, (blk_cell BK690.out 2).trans rfl⟩ (fun hHeld => ?_)
             clear hK K
             refine norm_ (a' := ?_) ?_ ?_
             rotate_left
             ·show Act.put _ (some 104) _ = _
              simp only [Act.put, List.setIfInBounds_toArray, List.set_cons_zero, List.set_cons_succ, i64_w, i32_w]
              rfl
             refine Zpt 6 (some 98) (h := ?_)
             refine Zpt 7 (some 105) (h := ?_)
             refine Zpt 8 (some 106) (h := ?_)
             refine Zpt 9 (some 17) (h := ?_)
             refine Zpt 10 (some 18) (h := ?_)
             refine done_ (done_of HT_.out (by kernel_rfl)) ?_
             go_upto_region 32 with (fail)
             go_cut [115] (fun v115 wc => ∃ (kq : Nat) (x115_110 : Bool), v115 = .bool x115_110 ∧ Aside0 (laws_FnExactConnectJacobi.j2 kq t756 t755 x115_110 = some r) ∧ Aside0 (kq ≤ kj75) ∧ Aside0 (Kd.R (Kd.int .i64) 2 wc w.heap.size (fun k_ => some k_ ≠ ((.slice Ao48 t749.length co48) : Value).ownBlock ∧ some k_ ≠ ((.slice Ao49 t750.length co49) : Value).ownBlock ∧ some k_ ≠ ((.slice Ao57 t752.length co57) : Value).ownBlock ∧ some k_ ≠ ((.slice Ao58 t753.length co58) : Value).ownBlock) (.slice Ao112 t727.length co112) t756) ∧ Aside0 (Kd.R (Kd.int .i64) 2 wc w.heap.size (fun k_ => some k_ ≠ ((.slice Ao112 t727.length co112) : Value).ownBlock ∧ some k_ ≠ ((.slice Ao49 t750.length co49) : Value).ownBlock ∧ some k_ ≠ ((.slice Ao57 t752.length co57) : Value).ownBlock ∧ some k_ ≠ ((.slice Ao58 t753.length co58) : Value).ownBlock) (.slice Ao48 t749.length co48) t749) ∧ Aside0 (Kd.R (Kd.int .i64) 2 wc w.heap.size (fun k_ => some k_ ≠ ((.slice Ao112 t727.length co112) : Value).ownBlock ∧ some k_ ≠ ((.slice Ao48 t749.length co48) : Value).ownBlock ∧ some k_ ≠ ((.slice Ao57 t752.length co57) : Value).ownBlock ∧ some k_ ≠ ((.slice Ao58 t753.length co58) : Value).ownBlock) (.slice Ao49 t750.length co49) t750) ∧ Aside0 (Kd.R (Kd.int .i64) 2 wc w.heap.size (fun k_ => some k_ ≠ ((.slice Ao112 t727.length co112) : Value).ownBlock ∧ some k_ ≠ ((.slice Ao48 t749.length co48) : Value).ownBlock ∧ some k_ ≠ ((.slice Ao49 t750.length co49) : Value).ownBlock ∧ some k_ ≠ ((.slice Ao58 t753.length co58) : Value).ownBlock) (.slice Ao57 t752.length co57) t752) ∧ Aside0 (Kd.R (Kd.int .i64) 2 wc w.heap.size (fun k_ => some k_ ≠ ((.slice Ao112 t727.length co112) : Value).ownBlock ∧ some k_ ≠ ((.slice Ao48 t749.length co48) : Value).ownBlock ∧ some k_ ≠ ((.slice Ao49 t750.length co49) : Value).ownBlock ∧ some k_ ≠ ((.slice Ao57 t752.length co57) : Value).ownBlock) (.slice Ao58 t753.length co58) t753) ∧ Aside0 (wc.heap[gb689]? = some (.cells #[.int .i64 a0_0, (.slice A0_1 l0_1.length c0_1), (.slice A0_2 l0_2.length c0_2)] 24 (0, 0))) ∧ Aside0 (wc.heap[gb690]? = some (.cells #[.int .i64 a1_0, (.slice A1_1 l1_1.length c1_1), (.slice A1_2 l1_2.length c1_2)] 24 (0, 0))) ∧ Aside0 (wc.heap[gb718]? = some (.cells #[.int .i64 t711, (.slice Ao48 t749.length co48), (.slice Ao49 t750.length co49)] 29 (0, 0))) ∧ Aside0 (wc.heap[gb726]? = some (.cells #[.int .i64 t719, (.slice Ao57 t752.length co57), (.slice Ao58 t753.length co58)] 29 (0, 0))) ∧ Aside0 (Below w.heap.size w wc))
             case first =>
              have H := HC111.out
              clear HC111
              replace H := Option.bind_eq_some_iff.mp H
              obtain ⟨t776, A1220, H⟩ := H
              replace H : (if t776 = true then (laws_FnExactConnectJacobi.j2 kj75 t756 t755 (t775 != t710)) else (laws_FnExactConnectJacobi.j2 kj75 t756 t755 true)) = some r := H
              have A122 := Aside0.mk A1220
              clear A1220
              by_cases c123 : t776 = true
              ·subst c123
               have H1 : (laws_FnExactConnectJacobi.j2 kj75 t756 t755 (t775 != t710)) = some r := by rw [if_pos rfl] at H; exact H
               clear H
               have H := H1
               clear H1
               have H' := Aside0.mk H
               clear H
               obtain ⟨Ao124, co124, eo124⟩ := Kd.R_slice HO774.out
               subst eo124
               obtain ⟨Ao125, co125, eo125⟩ := Kd.R_slice HO_8.out
               subst eo125
               go_wp2_with (first | ((with_reducible refine gate_callee (f := 29) rfl ?_); refine goesL_ (some 109) rfl rfl Try.func29 (by kernel_rfl) rfl #[.slice Ao124 t772.length co124, .slice Ao125 t707.length co125] rfl ZA ?_; (with_reducible refine (laws_eqInt64S.calls kj75 _ _ t772 _ _ t707 true _ ?side1 ?side2 ?side3 ?side4 A122.out).mono ?_); (case side1 => repeat (first | exact (Kd.R_reads' HO774.out).2.2 | (with_reducible refine Kd.C_alloc ?_ _) | (with_reducible refine Kd.C_drewN ?_ _) | (with_reducible refine Kd.C_drew ?_))); (case side2 => exact (Kd.R_reads' HO774.out).2.1); (case side3 => repeat (first | exact (Kd.R_reads' HO_8.out).2.2 | (with_reducible refine Kd.C_alloc ?_ _) | (with_reducible refine Kd.C_drewN ?_ _) | (with_reducible refine Kd.C_drew ?_))); (case side4 => exact (Kd.R_reads' HO_8.out).2.1); rintro e w' ⟨rfl, ⟨nd, rfl⟩⟩; refine ⟨_, rfl, ?_⟩))
               go_meet
               case rel => exact ⟨_, ((t775 != t710)), (by first | rfl | (simp; done) | (simp [*]; done)), H', ⟨by have := HJ25.out; have := HJ75.out; first | omega | exact Nat.le_refl _⟩, ⟨by (try simp only [hl719001_75]); (try simp only [hl719002_75]); (try simp only [hl727001_75]); (try simp only [hl727002_75]); refine ZQ ?_; exact Kd.R_mono HO_12.out (by first | exact (fun _ hk => (And.intro (hk.1.1.1.1.1.2.1) ((And.intro (hk.1.1.1.1.1.2.2.1) ((And.intro (hk.1.1.1.1.1.2.2.2.1) (hk.1.1.1.1.1.2.2.2.2))))))) | exact ZO)⟩, ⟨by (try simp only [hl719001_75]); (try simp only [hl719002_75]); (try simp only [hl727001_75]); (try simp only [hl727002_75]); refine ZQ ?_; exact Kd.R_mono HO_719001.out (by first | exact (fun _ hk => (And.intro (hk.1.1.1.1.1.2.1) ((And.intro (hk.1.1.1.1.1.2.2.1) ((And.intro (hk.1.1.1.1.1.2.2.2.1) (hk.1.1.1.1.1.2.2.2.2))))))) | exact ZO)⟩, ⟨by (try simp only [hl719001_75]); (try simp only [hl719002_75]); (try simp only [hl727001_75]); (try simp only [hl727002_75]); refine ZQ ?_; exact Kd.R_mono HO_719002.out (by first | exact (fun _ hk => (And.intro (hk.1.1.1.1.1.2.1) ((And.intro (hk.1.1.1.1.1.2.2.1) ((And.intro (hk.1.1.1.1.1.2.2.2.1) (hk.1.1.1.1.1.2.2.2.2))))))) | exact ZO)⟩, ⟨by (try simp only [hl719001_75]); (try simp only [hl719002_75]); (try simp only [hl727001_75]); (try simp only [hl727002_75]); refine ZQ ?_; exact Kd.R_mono HO_727001.out (by first | exact (fun _ hk => (And.intro (hk.1.1.1.1.1.2.1) ((And.intro (hk.1.1.1.1.1.2.2.1) ((And.intro (hk.1.1.1.1.1.2.2.2.1) (hk.1.1.1.1.1.2.2.2.2))))))) | exact ZO)⟩, ⟨by (try simp only [hl719001_75]); (try simp only [hl719002_75]); (try simp only [hl727001_75]); (try simp only [hl727002_75]); refine ZQ ?_; exact Kd.R_mono HO_727002.out (by first | exact (fun _ hk => (And.intro (hk.1.1.1.1.1.2.1) ((And.intro (hk.1.1.1.1.1.2.2.1) ((And.intro (hk.1.1.1.1.1.2.2.2.1) (hk.1.1.1.1.1.2.2.2.2))))))) | exact ZO)⟩, ⟨by (try simp only [hl719001_75]); (try simp only [hl719002_75]); (try simp only [hl727001_75]); (try simp only [hl727002_75]); refine ZS ?_; exact BK689.out⟩, ⟨by (try simp only [hl719001_75]); (try simp only [hl719002_75]); (try simp only [hl727001_75]); (try simp only [hl727002_75]); refine ZS ?_; exact BK690.out⟩, ⟨by (try simp only [hl719001_75]); (try simp only [hl719002_75]); (try simp only [hl727001_75]); (try simp only [hl727002_75]); refine ZS ?_; exact BK718.out⟩, ⟨by (try simp only [hl719001_75]); (try simp only [hl719002_75]); (try simp only [hl727001_75]); (try simp only [hl727002_75]); refine ZS ?_; exact BK726.out⟩, ⟨ZB⟩⟩
              ·replace c123 := Bool.eq_false_iff.mpr c123
               subst c123
               have H1 : (laws_FnExactConnectJacobi.j2 kj75 t756 t755 true) = some r := by rw [if_neg (show ¬ (false = true) by decide)] at H; exact H
               clear H
               have H := H1
               clear H1
               have H' := Aside0.mk H
               clear H
               obtain ⟨Ao126, co126, eo126⟩ := Kd.R_slice HO774.out
               subst eo126
               obtain ⟨Ao127, co127, eo127⟩ := Kd.R_slice HO_8.out
               subst eo127
               go_wp2_with (first | ((with_reducible refine gate_callee (f := 29) rfl ?_); refine goesL_ (some 109) rfl rfl Try.func29 (by kernel_rfl) rfl #[.slice Ao126 t772.length co126, .slice Ao127 t707.length co127] rfl ZA ?_; (with_reducible refine (laws_eqInt64S.calls kj75 _ _ t772 _ _ t707 false _ ?side1 ?side2 ?side3 ?side4 A122.out).mono ?_); (case side1 => repeat (first | exact (Kd.R_reads' HO774.out).2.2 | (with_reducible refine Kd.C_alloc ?_ _) | (with_reducible refine Kd.C_drewN ?_ _) | (with_reducible refine Kd.C_drew ?_))); (case side2 => exact (Kd.R_reads' HO774.out).2.1); (case side3 => repeat (first | exact (Kd.R_reads' HO_8.out).2.2 | (with_reducible refine Kd.C_alloc ?_ _) | (with_reducible refine Kd.C_drewN ?_ _) | (with_reducible refine Kd.C_drew ?_))); (case side4 => exact (Kd.R_reads' HO_8.out).2.1); rintro e w' ⟨rfl, ⟨nd, rfl⟩⟩; refine ⟨_, rfl, ?_⟩))
               go_meet
               case rel => exact ⟨_, (true), (by first | rfl | (simp; done) | (simp [*]; done)), H', ⟨by have := HJ25.out; have := HJ75.out; first | omega | exact Nat.le_refl _⟩, ⟨by (try simp only [hl719001_75]); (try simp only [hl719002_75]); (try simp only [hl727001_75]); (try simp only [hl727002_75]); refine ZQ ?_; exact Kd.R_mono HO_12.out (by first | exact (fun _ hk => (And.intro (hk.1.1.1.1.1.2.1) ((And.intro (hk.1.1.1.1.1.2.2.1) ((And.intro (hk.1.1.1.1.1.2.2.2.1) (hk.1.1.1.1.1.2.2.2.2))))))) | exact ZO)⟩, ⟨by (try simp only [hl719001_75]); (try simp only [hl719002_75]); (try simp only [hl727001_75]); (try simp only [hl727002_75]); refine ZQ ?_; exact Kd.R_mono HO_719001.out (by first | exact (fun _ hk => (And.intro (hk.1.1.1.1.1.2.1) ((And.intro (hk.1.1.1.1.1.2.2.1) ((And.intro (hk.1.1.1.1.1.2.2.2.1) (hk.1.1.1.1.1.2.2.2.2))))))) | exact ZO)⟩, ⟨by (try simp only [hl719001_75]); (try simp only [hl719002_75]); (try simp only [hl727001_75]); (try simp only [hl727002_75]); refine ZQ ?_; exact Kd.R_mono HO_719002.out (by first | exact (fun _ hk => (And.intro (hk.1.1.1.1.1.2.1) ((And.intro (hk.1.1.1.1.1.2.2.1) ((And.intro (hk.1.1.1.1.1.2.2.2.1) (hk.1.1.1.1.1.2.2.2.2))))))) | exact ZO)⟩, ⟨by (try simp only [hl719001_75]); (try simp only [hl719002_75]); (try simp only [hl727001_75]); (try simp only [hl727002_75]); refine ZQ ?_; exact Kd.R_mono HO_727001.out (by first | exact (fun _ hk => (And.intro (hk.1.1.1.1.1.2.1) ((And.intro (hk.1.1.1.1.1.2.2.1) ((And.intro (hk.1.1.1.1.1.2.2.2.1) (hk.1.1.1.1.1.2.2.2.2))))))) | exact ZO)⟩, ⟨by (try simp only [hl719001_75]); (try simp only [hl719002_75]); (try simp only [hl727001_75]); (try simp only [hl727002_75]); refine ZQ ?_; exact Kd.R_mono HO_727002.out (by first | exact (fun _ hk => (And.intro (hk.1.1.1.1.1.2.1) ((And.intro (hk.1.1.1.1.1.2.2.1) ((And.intro (hk.1.1.1.1.1.2.2.2.1) (hk.1.1.1.1.1.2.2.2.2))))))) | exact ZO)⟩, ⟨by (try simp only [hl719001_75]); (try simp only [hl719002_75]); (try simp only [hl727001_75]); (try simp only [hl727002_75]); refine ZS ?_; exact BK689.out⟩, ⟨by (try simp only [hl719001_75]); (try simp only [hl719002_75]); (try simp only [hl727001_75]); (try simp only [hl727002_75]); refine ZS ?_; exact BK690.out⟩, ⟨by (try simp only [hl719001_75]); (try simp only [hl719002_75]); (try simp only [hl727001_75]); (try simp only [hl727002_75]); refine ZS ?_; exact BK718.out⟩, ⟨by (try simp only [hl719001_75]); (try simp only [hl719002_75]); (try simp only [hl727001_75]); (try simp only [hl727002_75]); refine ZS ?_; exact BK726.out⟩, ⟨ZB⟩⟩
             case rest =>
              clear HC111
              try clear c1
              try clear c2
              try clear p2
              try clear c3
              try clear c4
              try clear c5
              try clear c6
              try clear c7
              try clear c8
              try clear c9
              try clear c10
              try clear c12
              try clear c16
              try clear c19
              try clear c20
              try clear c29
              try clear c30
              try clear c31
              try clear c32
              try clear c33
              try clear c45
              try clear c46
              try clear c53
              try clear c54
              try clear c55
              try clear c62
              try clear c67
              try clear c70
              try clear c73
              try clear c87
              try clear c88
              try clear c89
              try clear c92
              try clear c93
              try clear c96
              try clear c96b0
              try clear c98
              try clear c103
              try clear c106
              try clear c106b0
              try clear c107
              try clear c107b0
              try clear c107b1
              try clear c123
              try clear hcz16_0
              try clear hcz16_1
              try clear hcz16_2
              try clear hcz18_0
              try clear hcz18_1
              try clear hcz18_2
              try clear hcz30_0
              try clear hcz30_1
              try clear hcz30_2
              try clear hcz32_0
              try clear hcz32_1
              try clear hcz32_2
              try clear hcz42_0
              try clear hcz42_1
              try clear hcz42_2
              try clear hcz47_0
              try clear hcz47_1
              try clear hcz47_2
              try clear hcz50_0
              try clear hcz50_1
              try clear hcz50_2
              try clear hcz56_0
              try clear hcz56_1
              try clear hcz56_2
              try clear hcz59_0
              try clear hcz59_1
              try clear hcz59_2
              try clear hcz90_0
              try clear hcz90_1
              try clear hcz90_2
              try clear hcz94_0
              try clear hcz94_1
              try clear hcz94_2
              try clear hcz9_0
              try clear hcz9_1
              try clear hcz9_2
              try clear hfz16_0
              try clear hfz16_1
              try clear hfz16_2
              try clear hfz18_0
              try clear hfz18_1
              try clear hfz18_2
              try clear hfz30_0
              try clear hfz30_1
              try clear hfz30_2
              try clear hfz32_0
              try clear hfz32_1
              try clear hfz32_2
              try clear hfz42_0
              try clear hfz42_1
              try clear hfz42_2
              try clear hfz47_0
              try clear hfz47_1
              try clear hfz47_2
              try clear hfz50_0
              try clear hfz50_1
              try clear hfz50_2
              try clear hfz56_0
              try clear hfz56_1
              try clear hfz56_2
              try clear hfz59_0
              try clear hfz59_1
              try clear hfz59_2
              try clear hfz90_0
              try clear hfz90_1
              try clear hfz90_2
              try clear hfz94_0
              try clear hfz94_1
              try clear hfz94_2
              try clear hfz9_0
              try clear hfz9_1
              try clear hfz9_2
              try clear p2
              obtain ⟨kq, x115_110, rfl, HA, HJ110, HO_12, HO_719001, HO_719002, HO_727001, HO_727002, BK689, BK690, BK718, BK726, HB⟩ := hcut
              have hl12_110 := (Kd.R_reads' HO_12.out).1
              rw [hl12_110] at HO_12
              (try simp only [hl12_110])
              (try simp only [hl12_110] at BK689)
              (try simp only [hl12_110] at BK690)
              (try simp only [hl12_110] at BK718)
              (try simp only [hl12_110] at BK726)
              (try simp only [hl12_110] at HO_719001)
              (try simp only [hl12_110] at HO_719002)
              (try simp only [hl12_110] at HO_727001)
              (try simp only [hl12_110] at HO_727002)
              cases kq with
              | zero => exact absurd HA.out (by simp [laws_FnExactConnectJacobi.j2])
              | succ kj110 =>
               have H := HA.out
               clear HA
               simp only [laws_FnExactConnectJacobi.j2] at H
               by_cases c128 : x115_110 = true
               ·subst c128
                have H1 : (some false) = some r := by rw [if_pos rfl] at H; exact H
                clear H
                have H := H1
                clear H1
                exact absurd (H.trans (congrArg some hT.out)) (by simp)
               ·replace c128 := Bool.eq_false_iff.mpr c128
                subst c128
                have H1 : ((laws_heldInt64S.f kj110 t756 1).bind fun t777 => (if t777 < 0 then (some false) else (if t777 = t755 then (some true) else (some false)))) = some r := by rw [if_neg (show ¬ (false = true) by decide)] at H; exact H
                clear H
                have H := H1
                clear H1
                replace H := Option.bind_eq_some_iff.mp H
                obtain ⟨t777, A1290, H⟩ := H
                replace H : (if t777 < 0 then (some false) else (if t777 = t755 then (some true) else (some false))) = some r := H
                have A129 := Aside0.mk A1290
                clear A1290
                by_cases c130 : t777 < 0
                ·rw [if_pos c130] at H
                 have c130b0 : decide (t777 < 0) = true := decide_eq_true c130
                 clear c130
                 exact absurd (H.trans (congrArg some hT.out)) (by simp)
                ·rw [if_neg c130] at H
                 have c130b0 : decide (t777 < 0) = false := decide_eq_false c130
                 clear c130
                 by_cases c131 : t777 = t755
                 ·rw [if_pos c131] at H
                  have c131b0 : (t777 == t755) = true := beq_iff_eq.mpr c131
                  have c131b1 : (t777 != t755) = false := bne_eq_false_iff_eq.mpr c131
                  clear c131
                  obtain rfl := Option.some.inj H
                  go_wp2_with (first | ((with_reducible refine gate_callee (f := 31) rfl ?_); refine goesL_ (some 118) rfl rfl Try.func31 (by kernel_rfl) rfl #[.slice Ao112 t756.length co112, .int .i64 1] rfl ZA ?_; (with_reducible refine (laws_heldInt64S.calls kj110 _ _ t756 1 t777 _ ?side1 ?side2 A129.out).mono ?_); (case side1 => repeat (first | exact (Kd.R_reads' HO_12.out).2.2 | (with_reducible refine Kd.C_alloc ?_ _) | (with_reducible refine Kd.C_drewN ?_ _) | (with_reducible refine Kd.C_drew ?_))); (case side2 => exact (Kd.R_reads' HO_12.out).2.1); rintro e w' ⟨rfl, ⟨nd, rfl⟩⟩; refine ⟨_, rfl, ?_⟩))
                  go_ret
                  exact ⟨by first | rfl | (simp [errW_none, errW_some] <;> rfl) | (simp [*, errW_none, errW_some] <;> rfl), ZB⟩
                 ·rw [if_neg c131] at H
                  have c131b0 : (t777 == t755) = false := beq_eq_false_iff_ne.mpr c131
                  have c131b1 : (t777 != t755) = true := bne_iff_ne.mpr c131
                  exact absurd (H.trans (congrArg some hT.out)) (by simp)
            ·rw [if_neg c107] at H
             have c107b0 : (t757 == t755) = false := beq_eq_false_iff_ne.mpr c107
             have c107b1 : (t757 != t755) = true := bne_iff_ne.mpr c107
             exact absurd (H.trans (congrArg some hT.out)) (by simp)
       ·replace c73 := Bool.eq_false_iff.mpr c73
        subst c73
        have H1 : (some false) = some r := by rw [if_neg (show ¬ (false = true) by decide)] at H; exact H
        clear H
        have H := H1
        clear H1
        exact absurd (H.trans (congrArg some hT.out)) (by simp)
      ·replace c70 := Bool.eq_false_iff.mpr c70
       subst c70
       have H1 : (some false) = some r := by rw [if_neg (show ¬ (false = true) by decide)] at H; exact H
       clear H
       have H := H1
       clear H1
       exact absurd (H.trans (congrArg some hT.out)) (by simp)

end Go.Proofs.Ytaclapojgdekpaa.X
