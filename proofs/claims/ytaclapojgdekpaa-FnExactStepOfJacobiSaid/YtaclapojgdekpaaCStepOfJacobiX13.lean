/- Contracts of functions that the law reaches, printed by a program of this session; Lean checks them. -/
import Derived.Test.YtaclapojgdekpaaCStepOfJacobiX0
import Derived.Test.YtaclapojgdekpaaCStepOfJacobiX1
import Derived.Test.YtaclapojgdekpaaCStepOfJacobiX10
import Derived.Test.YtaclapojgdekpaaCStepOfJacobiX12
import Derived.Test.YtaclapojgdekpaaCStepOfJacobiX5
import Derived.Test.YtaclapojgdekpaaCStepOfJacobiX7
import Derived.Test.YtaclapojgdekpaaCStepOfJacobiXZ
namespace Go.Proofs.Ytaclapojgdekpaa.X
open Go.RowKit Go.Proofs.YtaclapojgdekpaaW.PrintWords Go.Proofs.YtaclapojgdekpaaW.PrintLast Go.Proofs.YtaclapojgdekpaaW.PrintMore
attribute [local go_sem] max2_int min2_int max_two min_two max_three min_three max_four min_four   -- for this text's walks alone
set_option linter.unusedVariables false
set_option linter.unusedSimpArgs false

/-! ### laws_FnExactStepOfJacobi: function 4 -/
mutual
def laws_FnExactStepOfJacobi.j0 : Nat → Int → Int → Int → Bool → Int → List Int → List Int → Int → List Int → List Int → Int → List Int → List Int → Int → List Int → List Int → Option (Bool)
 | 0, _, _, _, _, _, _, _, _, _, _, _, _, _, _, _, _ => none
 | k + 1, x1, x7, x10, x44, x352000, x352001, x352002, x369000, x369001, x369002, x377000, x377001, x377002, x386000, x386001, x386002 => if x44 = true then (some false) else ((laws_toJacobi.f k x352000 x352001 x352002).bind fun bt387 => ((laws_eqJacobi.f k x377000 x377001 x377002 bt387.1 bt387.2.1 bt387.2.2).bind fun t394 => (if t394 = true then ((laws_markJacobi.f k x377000 x377001 x377002 1).bind fun bt395 => (if bt395.1 < 0 then (laws_FnExactStepOfJacobi.j1 k x1 x7 true x352000 x352001 x352002 x369000 x369001 x369002 x386000 x386001 x386002) else ((laws_eqJacobi.f k x386000 x386001 x386002 x369000 x369001 x369002).bind fun t398 => (if t398 = true then (laws_FnExactStepOfJacobi.j1 k x1 x7 (x10 != x7) x352000 x352001 x352002 x369000 x369001 x369002 x386000 x386001 x386002) else (laws_FnExactStepOfJacobi.j1 k x1 x7 true x352000 x352001 x352002 x369000 x369001 x369002 x386000 x386001 x386002))))) else (some false))))
def laws_FnExactStepOfJacobi.j1 : Nat → Int → Int → Bool → Int → List Int → List Int → Int → List Int → List Int → Int → List Int → List Int → Option (Bool)
 | 0, _, _, _, _, _, _, _, _, _, _, _, _ => none
 | k + 1, x1, x7, x65, x352000, x352001, x352002, x369000, x369001, x369002, x386000, x386001, x386002 => if x65 = true then (some false) else ((laws_markJacobi.f k x386000 x386001 x386002 1).bind fun bt399 => ((laws_heldJacobi.f k x386000 bt399.2.1 bt399.2.2 1).bind fun t402 => (if t402 < 0 then (some false) else (if t402 = bt399.1 then ((laws_toJacobi.f k x352000 x352001 x352002).bind fun bt403 => ((impl_StepOfJacobi.f k bt403.1 bt403.2.1 bt403.2.2 x1).bind fun bt410 => ((laws_eqJacobi.f k bt410.1 bt410.2.1 bt410.2.2.1 x369000 x369001 x369002).bind fun t419 => (if t419 = true then (laws_FnExactStepOfJacobi.j2 k bt399.1 (bt410.2.2.2 != x7) x386000 bt399.2.1 bt399.2.2) else (laws_FnExactStepOfJacobi.j2 k bt399.1 true x386000 bt399.2.1 bt399.2.2))))) else (some false)))))
def laws_FnExactStepOfJacobi.j2 : Nat → Int → Bool → Int → List Int → List Int → Option (Bool)
 | 0, _, _, _, _, _ => none
 | k + 1, x12, x92, x386000, x386001, x386002 => if x92 = true then (some false) else ((laws_heldJacobi.f k x386000 x386001 x386002 1).bind fun t420 => (if t420 < 0 then (some false) else (if t420 = x12 then (some true) else (some false))))
end
def laws_FnExactStepOfJacobi.f (k : Nat) (a0_0 : Int) (l0_1 : List Int) (l0_2 : List Int) (a1 : Int) : Option (Bool) := (laws_szJacobi.f a0_0 l0_1 l0_2 1048576).bind fun t352 => (if t352 < 0 then (some true) else ((laws_toJacobi.f k a0_0 l0_1 l0_2).bind fun bt353 => ((spec_StepOfJacobi.f k bt353.1 bt353.2.1 bt353.2.2 a1).bind fun bt360 => ((laws_toJacobi.f k a0_0 l0_1 l0_2).bind fun bt369 => ((impl_StepOfJacobi.f k bt369.1 bt369.2.1 bt369.2.2 a1).bind fun bt377 => ((laws_eqJacobi.f k bt377.1 bt377.2.1 bt377.2.2.1 bt360.1 bt360.2.1 bt360.2.2.1).bind fun t386 => (if t386 = true then (laws_FnExactStepOfJacobi.j0 k a1 bt360.2.2.2 bt377.2.2.2 (bt377.2.2.2 != bt360.2.2.2) a0_0 l0_1 l0_2 bt360.1 bt360.2.1 bt360.2.2.1 bt369.1 bt369.2.1 bt369.2.2 bt377.1 bt377.2.1 bt377.2.2.1) else (laws_FnExactStepOfJacobi.j0 k a1 bt360.2.2.2 bt377.2.2.2 true a0_0 l0_1 l0_2 bt360.1 bt360.2.1 bt360.2.2.1 bt369.1 bt369.2.1 bt369.2.2 bt377.1 bt377.2.1 bt377.2.2.1))))))))
theorem laws_FnExactStepOfJacobi.mono_l : ∀ k, (∀ y0 y1 y2 y3 y4 y5 y6 y7 y8 y9 y10 y11 y12 y13 y14 y15, LeO (laws_FnExactStepOfJacobi.j0 k y0 y1 y2 y3 y4 y5 y6 y7 y8 y9 y10 y11 y12 y13 y14 y15) (laws_FnExactStepOfJacobi.j0 (k + 1) y0 y1 y2 y3 y4 y5 y6 y7 y8 y9 y10 y11 y12 y13 y14 y15)) ∧ (∀ y0 y1 y2 y3 y4 y5 y6 y7 y8 y9 y10 y11, LeO (laws_FnExactStepOfJacobi.j1 k y0 y1 y2 y3 y4 y5 y6 y7 y8 y9 y10 y11) (laws_FnExactStepOfJacobi.j1 (k + 1) y0 y1 y2 y3 y4 y5 y6 y7 y8 y9 y10 y11)) ∧ (∀ y0 y1 y2 y3 y4, LeO (laws_FnExactStepOfJacobi.j2 k y0 y1 y2 y3 y4) (laws_FnExactStepOfJacobi.j2 (k + 1) y0 y1 y2 y3 y4))
 | 0 => ⟨fun _ _ _ _ _ _ _ _ _ _ _ _ _ _ _ _ r h => by simp [laws_FnExactStepOfJacobi.j0] at h, fun _ _ _ _ _ _ _ _ _ _ _ _ r h => by simp [laws_FnExactStepOfJacobi.j1] at h, fun _ _ _ _ _ r h => by simp [laws_FnExactStepOfJacobi.j2] at h⟩
 | k + 1 => by
  obtain ⟨ih0, ih1, ih2⟩ := laws_FnExactStepOfJacobi.mono_l k
  refine ⟨?_, ?_, ?_⟩
  ·intro y0 y1 y2 y3 y4 y5 y6 y7 y8 y9 y10 y11 y12 y13 y14 y15
   unfold laws_FnExactStepOfJacobi.j0
   repeat' first
   | (with_reducible exact ih0 _ _ _ _ _ _ _ _ _ _ _ _ _ _ _ _)
   | (with_reducible exact ih1 _ _ _ _ _ _ _ _ _ _ _ _)
   | (with_reducible exact ih2 _ _ _ _ _)
   | (with_reducible exact impl_StepOfJacobi.mono _ _ _ _ _)
   | (with_reducible exact laws_eqJacobi.mono _ _ _ _ _ _ _)
   | (with_reducible exact laws_heldJacobi.mono _ _ _ _ _)
   | (with_reducible exact laws_markJacobi.mono _ _ _ _ _)
   | (with_reducible exact laws_toJacobi.mono _ _ _ _)
   | (with_reducible exact spec_StepOfJacobi.mono _ _ _ _ _)
   | (with_reducible exact LeO.refl _)
   | (with_reducible exact LeO.none _)
   | (with_reducible refine LeO.ite ?_ ?_)
   | (with_reducible refine LeO.bind ?_ (fun _ => ?_))
   | exact ih0 _ _ _ _ _ _ _ _ _ _ _ _ _ _ _ _
   | exact ih1 _ _ _ _ _ _ _ _ _ _ _ _
   | exact ih2 _ _ _ _ _
   | exact impl_StepOfJacobi.mono _ _ _ _ _
   | exact laws_eqJacobi.mono _ _ _ _ _ _ _
   | exact laws_heldJacobi.mono _ _ _ _ _
   | exact laws_markJacobi.mono _ _ _ _ _
   | exact laws_toJacobi.mono _ _ _ _
   | exact spec_StepOfJacobi.mono _ _ _ _ _
   | exact LeO.none _
   | refine LeO.ite ?_ ?_
   | refine LeO.bind ?_ (fun _ => ?_)
  ·intro y0 y1 y2 y3 y4 y5 y6 y7 y8 y9 y10 y11
   unfold laws_FnExactStepOfJacobi.j1
   repeat' first
   | (with_reducible exact ih0 _ _ _ _ _ _ _ _ _ _ _ _ _ _ _ _)
   | (with_reducible exact ih1 _ _ _ _ _ _ _ _ _ _ _ _)
   | (with_reducible exact ih2 _ _ _ _ _)
   | (with_reducible exact impl_StepOfJacobi.mono _ _ _ _ _)
   | (with_reducible exact laws_eqJacobi.mono _ _ _ _ _ _ _)
   | (with_reducible exact laws_heldJacobi.mono _ _ _ _ _)
   | (with_reducible exact laws_markJacobi.mono _ _ _ _ _)
   | (with_reducible exact laws_toJacobi.mono _ _ _ _)
   | (with_reducible exact spec_StepOfJacobi.mono _ _ _ _ _)
   | (with_reducible exact LeO.refl _)
   | (with_reducible exact LeO.none _)
   | (with_reducible refine LeO.ite ?_ ?_)
   | (with_reducible refine LeO.bind ?_ (fun _ => ?_))
   | exact ih0 _ _ _ _ _ _ _ _ _ _ _ _ _ _ _ _
   | exact ih1 _ _ _ _ _ _ _ _ _ _ _ _
   | exact ih2 _ _ _ _ _
   | exact impl_StepOfJacobi.mono _ _ _ _ _
   | exact laws_eqJacobi.mono _ _ _ _ _ _ _
   | exact laws_heldJacobi.mono _ _ _ _ _
   | exact laws_markJacobi.mono _ _ _ _ _
   | exact laws_toJacobi.mono _ _ _ _
   | exact spec_StepOfJacobi.mono _ _ _ _ _
   | exact LeO.none _
   | refine LeO.ite ?_ ?_
   | refine LeO.bind ?_ (fun _ => ?_)
  ·intro y0 y1 y2 y3 y4
   unfold laws_FnExactStepOfJacobi.j2
   repeat' first
   | (with_reducible exact ih0 _ _ _ _ _ _ _ _ _ _ _ _ _ _ _ _)
   | (with_reducible exact ih1 _ _ _ _ _ _ _ _ _ _ _ _)
   | (with_reducible exact ih2 _ _ _ _ _)
   | (with_reducible exact impl_StepOfJacobi.mono _ _ _ _ _)
   | (with_reducible exact laws_eqJacobi.mono _ _ _ _ _ _ _)
   | (with_reducible exact laws_heldJacobi.mono _ _ _ _ _)
   | (with_reducible exact laws_markJacobi.mono _ _ _ _ _)
   | (with_reducible exact laws_toJacobi.mono _ _ _ _)
   | (with_reducible exact spec_StepOfJacobi.mono _ _ _ _ _)
   | (with_reducible exact LeO.refl _)
   | (with_reducible exact LeO.none _)
   | (with_reducible refine LeO.ite ?_ ?_)
   | (with_reducible refine LeO.bind ?_ (fun _ => ?_))
   | exact ih0 _ _ _ _ _ _ _ _ _ _ _ _ _ _ _ _
   | exact ih1 _ _ _ _ _ _ _ _ _ _ _ _
   | exact ih2 _ _ _ _ _
   | exact impl_StepOfJacobi.mono _ _ _ _ _
   | exact laws_eqJacobi.mono _ _ _ _ _ _ _
   | exact laws_heldJacobi.mono _ _ _ _ _
   | exact laws_markJacobi.mono _ _ _ _ _
   | exact laws_toJacobi.mono _ _ _ _
   | exact spec_StepOfJacobi.mono _ _ _ _ _
   | exact LeO.none _
   | refine LeO.ite ?_ ?_
   | refine LeO.bind ?_ (fun _ => ?_)
theorem laws_FnExactStepOfJacobi.mono : ∀ a0 a1 a2 a3 k, LeO (laws_FnExactStepOfJacobi.f k a0 a1 a2 a3) (laws_FnExactStepOfJacobi.f (k + 1) a0 a1 a2 a3) := by
 intro a0 a1 a2 a3 k
 obtain ⟨ih0, ih1, ih2⟩ := laws_FnExactStepOfJacobi.mono_l k
 unfold laws_FnExactStepOfJacobi.f
 repeat' first
   | (with_reducible exact ih0 _ _ _ _ _ _ _ _ _ _ _ _ _ _ _ _)
   | (with_reducible exact ih1 _ _ _ _ _ _ _ _ _ _ _ _)
   | (with_reducible exact ih2 _ _ _ _ _)
   | (with_reducible exact impl_StepOfJacobi.mono _ _ _ _ _)
   | (with_reducible exact laws_eqJacobi.mono _ _ _ _ _ _ _)
   | (with_reducible exact laws_heldJacobi.mono _ _ _ _ _)
   | (with_reducible exact laws_markJacobi.mono _ _ _ _ _)
   | (with_reducible exact laws_toJacobi.mono _ _ _ _)
   | (with_reducible exact spec_StepOfJacobi.mono _ _ _ _ _)
   | (with_reducible exact LeO.refl _)
   | (with_reducible exact LeO.none _)
   | (with_reducible refine LeO.ite ?_ ?_)
   | (with_reducible refine LeO.bind ?_ (fun _ => ?_))
   | exact ih0 _ _ _ _ _ _ _ _ _ _ _ _ _ _ _ _
   | exact ih1 _ _ _ _ _ _ _ _ _ _ _ _
   | exact ih2 _ _ _ _ _
   | exact impl_StepOfJacobi.mono _ _ _ _ _
   | exact laws_eqJacobi.mono _ _ _ _ _ _ _
   | exact laws_heldJacobi.mono _ _ _ _ _
   | exact laws_markJacobi.mono _ _ _ _ _
   | exact laws_toJacobi.mono _ _ _ _
   | exact spec_StepOfJacobi.mono _ _ _ _ _
   | exact LeO.none _
   | refine LeO.ite ?_ ?_
   | refine LeO.bind ?_ (fun _ => ?_)
set_option maxHeartbeats 8000000 in
set_option maxRecDepth 100000 in
theorem laws_FnExactStepOfJacobi.calls (k : Nat) (a0_0 : Int) (A0_1 : Option Addr) (c0_1 : Nat) (l0_1 : List Int) (A0_2 : Option Addr) (c0_2 : Nat) (l0_2 : List Int) (a1 : Int) (r : Bool) (w : World) (hr0_1 : Kd.C (Kd.int .i64) w A0_1 l0_1.length l0_1) (hc0_1 : l0_1.length ≤ c0_1) (hr0_2 : Kd.C (Kd.int .i64) w A0_2 l0_2.length l0_2) (hc0_2 : l0_2.length ≤ c0_2) (hT : Aside0 (r = true)) (h : laws_FnExactStepOfJacobi.f k a0_0 l0_1 l0_2 a1 = some r) :
  Calls Try.prog 4 #[.agg #[.int .i64 a0_0, .slice A0_1 l0_1.length c0_1, .slice A0_2 l0_2.length c0_2], .int .i64 a1] w fun e w' => e = .returned (.bool r) ∧ Below w.heap.size w w' := by
 have hu24 := Try.underlying24
 have hu29 := Try.underlying29
 have HR0_1 := Aside0.mk hr0_1
 have HC0_1 := Aside0.mk hc0_1
 clear hr0_1 hc0_1
 have HR0_2 := Aside0.mk hr0_2
 have HC0_2 := Aside0.mk hc0_2
 clear hr0_2 hc0_2
 have HB := Aside0.mk (Below.refl w.heap.size w)
 have H : ((laws_szJacobi.f a0_0 l0_1 l0_2 1048576).bind fun t352 => (if t352 < 0 then (some true) else ((laws_toJacobi.f k a0_0 l0_1 l0_2).bind fun bt353 => ((spec_StepOfJacobi.f k bt353.1 bt353.2.1 bt353.2.2 a1).bind fun bt360 => ((laws_toJacobi.f k a0_0 l0_1 l0_2).bind fun bt369 => ((impl_StepOfJacobi.f k bt369.1 bt369.2.1 bt369.2.2 a1).bind fun bt377 => ((laws_eqJacobi.f k bt377.1 bt377.2.1 bt377.2.2.1 bt360.1 bt360.2.1 bt360.2.2.1).bind fun t386 => (if t386 = true then (laws_FnExactStepOfJacobi.j0 k a1 bt360.2.2.2 bt377.2.2.2 (bt377.2.2.2 != bt360.2.2.2) a0_0 l0_1 l0_2 bt360.1 bt360.2.1 bt360.2.2.1 bt369.1 bt369.2.1 bt369.2.2 bt377.1 bt377.2.1 bt377.2.2.1) else (laws_FnExactStepOfJacobi.j0 k a1 bt360.2.2.2 bt377.2.2.2 true a0_0 l0_1 l0_2 bt360.1 bt360.2.1 bt360.2.2.1 bt369.1 bt369.2.1 bt369.2.2 bt377.1 bt377.2.1 bt377.2.2.1))))))))) = some r := h
 clear h
 replace H := Option.bind_eq_some_iff.mp H
 obtain ⟨t352, A30, H⟩ := H
 replace H : (if t352 < 0 then (some true) else ((laws_toJacobi.f k a0_0 l0_1 l0_2).bind fun bt353 => ((spec_StepOfJacobi.f k bt353.1 bt353.2.1 bt353.2.2 a1).bind fun bt360 => ((laws_toJacobi.f k a0_0 l0_1 l0_2).bind fun bt369 => ((impl_StepOfJacobi.f k bt369.1 bt369.2.1 bt369.2.2 a1).bind fun bt377 => ((laws_eqJacobi.f k bt377.1 bt377.2.1 bt377.2.2.1 bt360.1 bt360.2.1 bt360.2.2.1).bind fun t386 => (if t386 = true then (laws_FnExactStepOfJacobi.j0 k a1 bt360.2.2.2 bt377.2.2.2 (bt377.2.2.2 != bt360.2.2.2) a0_0 l0_1 l0_2 bt360.1 bt360.2.1 bt360.2.2.1 bt369.1 bt369.2.1 bt369.2.2 bt377.1 bt377.2.1 bt377.2.2.1) else (laws_FnExactStepOfJacobi.j0 k a1 bt360.2.2.2 bt377.2.2.2 true a0_0 l0_1 l0_2 bt360.1 bt360.2.1 bt360.2.2.1 bt369.1 bt369.2.1 bt369.2.2 bt377.1 bt377.2.1 bt377.2.2.1)))))))) = some r := H
 have A3 := Aside0.mk A30
 clear A30
 by_cases c4 : t352 < 0
 ·rw [if_pos c4] at H
  have c4b0 : decide (t352 < 0) = true := decide_eq_true c4
  clear c4
  obtain rfl := Option.some.inj H
  go_enter Try.func4, Try.ntmps4
  go_wp2_with (first | ((with_reducible refine gate_dst (N := 2) rfl ?_); refine box_event ?hg (N := 2) ?hd (cs := #[.int .i64 a0_0, .slice A0_1 l0_1.length c0_1, .slice A0_2 l0_2.length c0_2]) (t := 24) ?hr ?_; (case hd => rfl); (case hg => rfl); (case hr => first | (go_simp; done) | (go_simp; rfl)); intro gb351 hg w5 hbox hb; have n0_ := Aside0.mk (below_step ZB hb); have n1_ := Aside0.mk (hbox); have n2_ := Aside0.mk ((ZG hg : w.heap.size ≤ gb351)); have n3_ := Aside0.mk ((ZG hg : w.heap.size ≤ gb351)); clear HB; have HB := n0_; have BK351 := n1_; have GW351 := n2_; have GE351 := n3_; clear n0_ n1_ n2_ n3_; clear hb hbox hg; obtain ⟨hcz6_0, hcz6_1, hcz6_2, hfz6_0, hfz6_1, hfz6_2⟩ := ZD3 BK351) | ((with_reducible refine gate_callee (f := 14) rfl ?_); refine goesL_ (some 18) rfl rfl Try.func14 (by kernel_rfl) rfl #[.agg #[.int .i64 a0_0, .slice A0_1 l0_1.length c0_1, .slice A0_2 l0_2.length c0_2], .int .i64 1048576] rfl ZA ?_; (with_reducible refine (laws_szJacobi.calls a0_0 _ _ l0_1 _ _ l0_2 1048576 t352 _ ?side1 ?side2 ?side3 ?side4 A3.out).mono ?_); (case side1 => exact ZC HR0_1); (case side2 => exact HC0_1.out); (case side3 => exact ZC HR0_2); (case side4 => exact HC0_2.out); rintro e w7 ⟨rfl, hb⟩; refine ⟨_, rfl, ?_⟩; have n0_ := ZL BK351 hb; have n1_ := Aside0.mk (below_step ZB hb); clear BK351; clear HB; have BK351 := n0_; have HB := n1_; clear n0_ n1_; (try clear hb); (try clear hb2); (try clear hk); (try clear hi)))
  go_ret
  exact ⟨by first | rfl | (simp [errW_none, errW_some] <;> rfl) | (simp [*, errW_none, errW_some] <;> rfl), ZB⟩
 ·rw [if_neg c4] at H
  have c4b0 : decide (t352 < 0) = false := decide_eq_false c4
  clear c4
  replace H := Option.bind_eq_some_iff.mp H
  obtain ⟨⟨t353, t354, t357⟩, A80, H⟩ := H
  replace H : ((spec_StepOfJacobi.f k t353 t354 t357 a1).bind fun bt360 => ((laws_toJacobi.f k a0_0 l0_1 l0_2).bind fun bt369 => ((impl_StepOfJacobi.f k bt369.1 bt369.2.1 bt369.2.2 a1).bind fun bt377 => ((laws_eqJacobi.f k bt377.1 bt377.2.1 bt377.2.2.1 bt360.1 bt360.2.1 bt360.2.2.1).bind fun t386 => (if t386 = true then (laws_FnExactStepOfJacobi.j0 k a1 bt360.2.2.2 bt377.2.2.2 (bt377.2.2.2 != bt360.2.2.2) a0_0 l0_1 l0_2 bt360.1 bt360.2.1 bt360.2.2.1 bt369.1 bt369.2.1 bt369.2.2 bt377.1 bt377.2.1 bt377.2.2.1) else (laws_FnExactStepOfJacobi.j0 k a1 bt360.2.2.2 bt377.2.2.2 true a0_0 l0_1 l0_2 bt360.1 bt360.2.1 bt360.2.2.1 bt369.1 bt369.2.1 bt369.2.2 bt377.1 bt377.2.1 bt377.2.2.1)))))) = some r := H
  have A8 := Aside0.mk A80
  clear A80
  replace H := Option.bind_eq_some_iff.mp H
  obtain ⟨⟨t360, t361, t364, t367⟩, A90, H⟩ := H
  replace H : ((laws_toJacobi.f k a0_0 l0_1 l0_2).bind fun bt369 => ((impl_StepOfJacobi.f k bt369.1 bt369.2.1 bt369.2.2 a1).bind fun bt377 => ((laws_eqJacobi.f k bt377.1 bt377.2.1 bt377.2.2.1 t360 t361 t364).bind fun t386 => (if t386 = true then (laws_FnExactStepOfJacobi.j0 k a1 t367 bt377.2.2.2 (bt377.2.2.2 != t367) a0_0 l0_1 l0_2 t360 t361 t364 bt369.1 bt369.2.1 bt369.2.2 bt377.1 bt377.2.1 bt377.2.2.1) else (laws_FnExactStepOfJacobi.j0 k a1 t367 bt377.2.2.2 true a0_0 l0_1 l0_2 t360 t361 t364 bt369.1 bt369.2.1 bt369.2.2 bt377.1 bt377.2.1 bt377.2.2.1))))) = some r := H
  have A9 := Aside0.mk A90
  clear A90
  replace H := Option.bind_eq_some_iff.mp H
  obtain ⟨⟨t369, t370, t373⟩, A100, H⟩ := H
  replace H : ((impl_StepOfJacobi.f k t369 t370 t373 a1).bind fun bt377 => ((laws_eqJacobi.f k bt377.1 bt377.2.1 bt377.2.2.1 t360 t361 t364).bind fun t386 => (if t386 = true then (laws_FnExactStepOfJacobi.j0 k a1 t367 bt377.2.2.2 (bt377.2.2.2 != t367) a0_0 l0_1 l0_2 t360 t361 t364 t369 t370 t373 bt377.1 bt377.2.1 bt377.2.2.1) else (laws_FnExactStepOfJacobi.j0 k a1 t367 bt377.2.2.2 true a0_0 l0_1 l0_2 t360 t361 t364 t369 t370 t373 bt377.1 bt377.2.1 bt377.2.2.1)))) = some r := H
  have A10 := Aside0.mk A100
  clear A100
  replace H := Option.bind_eq_some_iff.mp H
  obtain ⟨⟨t377, t378, t381, t384⟩, A110, H⟩ := H
  replace H : ((laws_eqJacobi.f k t377 t378 t381 t360 t361 t364).bind fun t386 => (if t386 = true then (laws_FnExactStepOfJacobi.j0 k a1 t367 t384 (t384 != t367) a0_0 l0_1 l0_2 t360 t361 t364 t369 t370 t373 t377 t378 t381) else (laws_FnExactStepOfJacobi.j0 k a1 t367 t384 true a0_0 l0_1 l0_2 t360 t361 t364 t369 t370 t373 t377 t378 t381))) = some r := H
  have A11 := Aside0.mk A110
  clear A110
  have HC12 := Aside0.mk H
  clear H
  go_enter Try.func4, Try.ntmps4
  go_upto_region 8 with (first | ((with_reducible refine gate_dst (N := 2) rfl ?_); refine box_event ?hg (N := 2) ?hd (cs := #[.int .i64 a0_0, .slice A0_1 l0_1.length c0_1, .slice A0_2 l0_2.length c0_2]) (t := 24) ?hr ?_; (case hd => rfl); (case hg => rfl); (case hr => first | (go_simp; done) | (go_simp; rfl)); intro gb351 hg w13 hbox hb; have n0_ := Aside0.mk (below_step ZB hb); have n1_ := Aside0.mk (hbox); have n2_ := Aside0.mk ((ZG hg : w.heap.size ≤ gb351)); have n3_ := Aside0.mk ((ZG hg : w.heap.size ≤ gb351)); clear HB; have HB := n0_; have BK351 := n1_; have GW351 := n2_; have GE351 := n3_; clear n0_ n1_ n2_ n3_; clear hb hbox hg; obtain ⟨hcz14_0, hcz14_1, hcz14_2, hfz14_0, hfz14_1, hfz14_2⟩ := ZD3 BK351) | ((with_reducible refine gate_callee (f := 14) rfl ?_); refine goesL_ (some 18) rfl rfl Try.func14 (by kernel_rfl) rfl #[.agg #[.int .i64 a0_0, .slice A0_1 l0_1.length c0_1, .slice A0_2 l0_2.length c0_2], .int .i64 1048576] rfl ZA ?_; (with_reducible refine (laws_szJacobi.calls a0_0 _ _ l0_1 _ _ l0_2 1048576 t352 _ ?side1 ?side2 ?side3 ?side4 A3.out).mono ?_); (case side1 => exact ZC HR0_1); (case side2 => exact HC0_1.out); (case side3 => exact ZC HR0_2); (case side4 => exact HC0_2.out); rintro e w15 ⟨rfl, hb⟩; refine ⟨_, rfl, ?_⟩; have n0_ := ZL BK351 hb; have n1_ := Aside0.mk (below_step ZB hb); clear BK351; clear HB; have BK351 := n0_; have HB := n1_; clear n0_ n1_; (try clear hb); (try clear hb2); (try clear hk); (try clear hi); obtain ⟨hcz16_0, hcz16_1, hcz16_2, hfz16_0, hfz16_1, hfz16_2⟩ := ZD3 BK351) | ((with_reducible refine gate_callee (f := 16) rfl ?_); refine goesL_ (some 23) rfl rfl Try.func16 (by kernel_rfl) rfl #[.agg #[.int .i64 a0_0, .slice A0_1 l0_1.length c0_1, .slice A0_2 l0_2.length c0_2]] rfl ZA ?_; (with_reducible refine (laws_toJacobi.calls k a0_0 _ _ l0_1 _ _ l0_2 t353 t354 t357 _ ?side1 ?side2 ?side3 ?side4 A8.out).mono ?_); (case side1 => exact ZC HR0_1); (case side2 => exact HC0_1.out); (case side3 => exact ZC HR0_2); (case side4 => exact HC0_2.out); rintro e w17 ⟨v355, v358, rfl, ho0, ho1, hb⟩; refine ⟨_, rfl, ?_⟩; have n0_ := Aside0.mk (Kd.R_lower ho0 (below_size ZB)); have n1_ := Aside0.mk (Kd.R_lower ho1 (below_size ZB)); have n2_ := ZL BK351 hb; have n3_ := Aside0.mk (below_step ZB hb); clear BK351; clear HB; have HO356 := n0_; have HO359 := n1_; have BK351 := n2_; have HB := n3_; clear n0_ n1_ n2_ n3_; (try clear hb); (try clear hb2); (try clear hk); (try clear hi); (try clear ho0); (try clear ho1); obtain ⟨Ao18, co18, eo18⟩ := Kd.R_slice HO356.out; subst eo18; obtain ⟨Ao19, co19, eo19⟩ := Kd.R_slice HO359.out; subst eo19) | ((with_reducible refine gate_callee (f := 23) rfl ?_); refine goesL_ (some 25) rfl rfl Try.func23 (by kernel_rfl) rfl #[.agg #[.int .i64 t353, .slice Ao18 t354.length co18, .slice Ao19 t357.length co19], .int .i64 a1] rfl ZA ?_; (with_reducible refine (spec_StepOfJacobi.calls k t353 _ _ t354 _ _ t357 a1 t360 t361 t364 t367 _ ?side1 ?side2 ?side3 ?side4 A9.out).mono ?_); (case side1 => repeat (first | exact (Kd.R_reads' HO356.out).2.2 | (with_reducible refine Kd.C_alloc ?_ _) | (with_reducible refine Kd.C_drewN ?_ _) | (with_reducible refine Kd.C_drew ?_))); (case side2 => exact (Kd.R_reads' HO356.out).2.1); (case side3 => repeat (first | exact (Kd.R_reads' HO359.out).2.2 | (with_reducible refine Kd.C_alloc ?_ _) | (with_reducible refine Kd.C_drewN ?_ _) | (with_reducible refine Kd.C_drew ?_))); (case side4 => exact (Kd.R_reads' HO359.out).2.1); rintro e w20 ⟨v362, v365, rfl, ho0, ho1, hb⟩; refine ⟨_, rfl, ?_⟩; have n0_ := Aside0.mk (Kd.R_mono (Kd.R_told (Kd.R_told (Kd.R_old (ZR HO356) hb) (Kd.R_base ho0)) (Kd.R_base ho1)) (fun _ h_ => h_.1)); have n1_ := Aside0.mk (Kd.R_mono (Kd.R_told (Kd.R_told (Kd.R_old (ZR HO359) hb) (Kd.R_base ho0)) (Kd.R_base ho1)) (fun _ h_ => h_.1)); have n2_ := Aside0.mk (Kd.R_lower (Kd.R_new' (Kd.R_new' ho0 (Kd.R_lt (ZR HO356))) (Kd.R_lt (ZR HO359))) (below_size ZB)); have n3_ := Aside0.mk (Kd.R_lower (Kd.R_new' (Kd.R_new' ho1 (Kd.R_lt (ZR HO356))) (Kd.R_lt (ZR HO359))) (below_size ZB)); have n4_ := ZL BK351 hb; have n5_ := Aside0.mk (below_step ZB hb); clear HO356; clear HO359; clear BK351; clear HB; have HO356 := n0_; have HO359 := n1_; have HO363 := n2_; have HO366 := n3_; have BK351 := n4_; have HB := n5_; clear n0_ n1_ n2_ n3_ n4_ n5_; (try clear hb); (try clear hb2); (try clear hk); (try clear hi); (try clear ho0); (try clear ho1)) | ((with_reducible refine gate_dst (N := 6) rfl ?_); refine box_event ?hg (N := 6) ?hd (cs := #[.int .i64 0, .slice none 0 0, .slice none 0 0]) (t := 29) ?hr ?_; (case hd => rfl); (case hg => rfl); (case hr => first | (go_simp; done) | (go_simp; rfl)); intro gb368 hg w21 hbox hb; have n0_ := Aside0.mk (Kd.R_below (ZR HO356) hb); have n1_ := Aside0.mk (Kd.R_below (ZR HO359) hb); have n2_ := Aside0.mk (Kd.R_below (ZR HO363) hb); have n3_ := Aside0.mk (Kd.R_below (ZR HO366) hb); have n4_ := ZL BK351 hb; have n5_ := Aside0.mk (below_step ZB hb); have n6_ := Aside0.mk (hbox); have n7_ := Aside0.mk ((ZG hg : w.heap.size ≤ gb368)); have n8_ := Aside0.mk ((ZG hg : w.heap.size ≤ gb368)); have n9_ := Aside0.mk ((ZN hg BK351 : gb351 ≠ gb368)); have n10_ := Aside0.mk ((ZM hg BK351 : gb368 ≠ gb351)); clear HO356; clear HO359; clear HO363; clear HO366; clear BK351; clear HB; have HO356 := n0_; have HO359 := n1_; have HO363 := n2_; have HO366 := n3_; have BK351 := n4_; have HB := n5_; have BK368 := n6_; have GW368 := n7_; have GE368 := n8_; have NB351_368 := n9_; have NB368_351 := n10_; clear n0_ n1_ n2_ n3_ n4_ n5_ n6_ n7_ n8_ n9_ n10_; clear hb hbox hg; have hnb22 := NB368_351.out; have hnc22 := NB351_368.out; obtain ⟨hcz23_0, hcz23_1, hcz23_2, hfz23_0, hfz23_1, hfz23_2⟩ := ZD3 BK368; obtain ⟨Ao24, co24, eo24⟩ := Kd.R_slice HO363.out; subst eo24; obtain ⟨Ao25, co25, eo25⟩ := Kd.R_slice HO366.out; subst eo25; obtain ⟨hcz26_0, hcz26_1, hcz26_2, hfz26_0, hfz26_1, hfz26_2⟩ := ZD3 BK351) | ((with_reducible refine gate_callee (f := 16) rfl ?_); refine goesL_ (some 29) rfl rfl Try.func16 (by kernel_rfl) rfl #[.agg #[.int .i64 a0_0, .slice A0_1 l0_1.length c0_1, .slice A0_2 l0_2.length c0_2]] rfl ZA ?_; (with_reducible refine (laws_toJacobi.calls k a0_0 _ _ l0_1 _ _ l0_2 t369 t370 t373 _ ?side1 ?side2 ?side3 ?side4 A10.out).mono ?_); (case side1 => exact Kd.C_below HR0_1.out ZB); (case side2 => exact HC0_1.out); (case side3 => exact Kd.C_below HR0_2.out ZB); (case side4 => exact HC0_2.out); rintro e w27 ⟨v371, v374, rfl, ho0, ho1, hb⟩; refine ⟨_, rfl, ?_⟩; have n0_ := Aside0.mk (Kd.R_mono (Kd.R_told (Kd.R_told (Kd.R_old (ZQ (ZF3 HO356 BK368 (.int .i64 t360) (.slice Ao24 t361.length co24) (.slice Ao25 t364.length co25))) hb) (Kd.R_base ho0)) (Kd.R_base ho1)) (fun _ h_ => h_.1)); have n1_ := Aside0.mk (Kd.R_mono (Kd.R_told (Kd.R_told (Kd.R_old (ZQ (ZF3 HO359 BK368 (.int .i64 t360) (.slice Ao24 t361.length co24) (.slice Ao25 t364.length co25))) hb) (Kd.R_base ho0)) (Kd.R_base ho1)) (fun _ h_ => h_.1)); have n2_ := Aside0.mk (Kd.R_mono (Kd.R_told (Kd.R_told (Kd.R_old (ZQ (ZF3 HO363 BK368 (.int .i64 t360) (.slice Ao24 t361.length co24) (.slice Ao25 t364.length co25))) hb) (Kd.R_base ho0)) (Kd.R_base ho1)) (fun _ h_ => h_.1)); have n3_ := Aside0.mk (Kd.R_mono (Kd.R_told (Kd.R_told (Kd.R_old (ZQ (ZF3 HO366 BK368 (.int .i64 t360) (.slice Ao24 t361.length co24) (.slice Ao25 t364.length co25))) hb) (Kd.R_base ho0)) (Kd.R_base ho1)) (fun _ h_ => h_.1)); have n4_ := Aside0.mk (Kd.R_lower (Kd.R_new' (Kd.R_new' (Kd.R_new' (Kd.R_new' ho0 (Kd.R_lt (ZQ (ZF3 HO356 BK368 (.int .i64 t360) (.slice Ao24 t361.length co24) (.slice Ao25 t364.length co25))))) (Kd.R_lt (ZQ (ZF3 HO359 BK368 (.int .i64 t360) (.slice Ao24 t361.length co24) (.slice Ao25 t364.length co25))))) (Kd.R_lt (ZQ (ZF3 HO363 BK368 (.int .i64 t360) (.slice Ao24 t361.length co24) (.slice Ao25 t364.length co25))))) (Kd.R_lt (ZQ (ZF3 HO366 BK368 (.int .i64 t360) (.slice Ao24 t361.length co24) (.slice Ao25 t364.length co25))))) (below_size ZB)); have n5_ := Aside0.mk (Kd.R_lower (Kd.R_new' (Kd.R_new' (Kd.R_new' (Kd.R_new' ho1 (Kd.R_lt (ZQ (ZF3 HO356 BK368 (.int .i64 t360) (.slice Ao24 t361.length co24) (.slice Ao25 t364.length co25))))) (Kd.R_lt (ZQ (ZF3 HO359 BK368 (.int .i64 t360) (.slice Ao24 t361.length co24) (.slice Ao25 t364.length co25))))) (Kd.R_lt (ZQ (ZF3 HO363 BK368 (.int .i64 t360) (.slice Ao24 t361.length co24) (.slice Ao25 t364.length co25))))) (Kd.R_lt (ZQ (ZF3 HO366 BK368 (.int .i64 t360) (.slice Ao24 t361.length co24) (.slice Ao25 t364.length co25))))) (below_size ZB)); have n6_ := Aside0.mk (blk_below (g := gb351) (o := .cells #[.int .i64 a0_0, .slice A0_1 l0_1.length c0_1, .slice A0_2 l0_2.length c0_2] 24 (0, 0)) (by refine ZS ?_; refine blk_far ?_ NB351_368.out _; refine ZS ?_; refine blk_far ?_ NB351_368.out _; refine ZS ?_; refine blk_far ?_ NB351_368.out _; refine ZS ?_; exact BK351.out) hb); have n7_ := Aside0.mk (blk_below (g := gb368) (o := .cells #[.int .i64 t360, .slice Ao24 t361.length co24, .slice Ao25 t364.length co25] 29 (0, 0)) (by refine ZS ?_; refine blk_put (cs := #[.int .i64 t360, .slice Ao24 t361.length co24, .slice none 0 0]) ?_ 2 _ rfl; refine ZS ?_; refine blk_put (cs := #[.int .i64 t360, .slice none 0 0, .slice none 0 0]) ?_ 1 _ rfl; refine ZS ?_; refine blk_put (cs := #[.int .i64 0, .slice none 0 0, .slice none 0 0]) ?_ 0 _ rfl; refine ZS ?_; exact BK368.out) hb); have n8_ := Aside0.mk (below_step ZB hb); clear HO356; clear HO359; clear HO363; clear HO366; clear BK351; clear BK368; clear HB; have HO356 := n0_; have HO359 := n1_; have HO363 := n2_; have HO366 := n3_; have HO372 := n4_; have HO375 := n5_; have BK351 := n6_; have BK368 := n7_; have HB := n8_; clear n0_ n1_ n2_ n3_ n4_ n5_ n6_ n7_ n8_; (try clear hb); (try clear hb2); (try clear hk); (try clear hi); (try clear ho0); (try clear ho1)) | ((with_reducible refine gate_dst (N := 8) rfl ?_); refine box_event ?hg (N := 8) ?hd (cs := #[.int .i64 0, .slice none 0 0, .slice none 0 0]) (t := 29) ?hr ?_; (case hd => rfl); (case hg => rfl); (case hr => first | (go_simp; done) | (go_simp; rfl)); intro gb376 hg w28 hbox hb; have n0_ := Aside0.mk (Kd.R_below (ZR HO356) hb); have n1_ := Aside0.mk (Kd.R_below (ZR HO359) hb); have n2_ := Aside0.mk (Kd.R_below (ZR HO363) hb); have n3_ := Aside0.mk (Kd.R_below (ZR HO366) hb); have n4_ := Aside0.mk (Kd.R_below (ZR HO372) hb); have n5_ := Aside0.mk (Kd.R_below (ZR HO375) hb); have n6_ := ZL BK351 hb; have n7_ := ZL BK368 hb; have n8_ := Aside0.mk (below_step ZB hb); have n9_ := Aside0.mk (hbox); have n10_ := Aside0.mk ((ZG hg : w.heap.size ≤ gb376)); have n11_ := Aside0.mk ((ZG hg : w.heap.size ≤ gb376)); have n12_ := Aside0.mk ((ZN hg BK351 : gb351 ≠ gb376)); have n13_ := Aside0.mk ((ZM hg BK351 : gb376 ≠ gb351)); have n14_ := Aside0.mk ((ZN hg BK368 : gb368 ≠ gb376)); have n15_ := Aside0.mk ((ZM hg BK368 : gb376 ≠ gb368)); clear HO356; clear HO359; clear HO363; clear HO366; clear HO372; clear HO375; clear BK351; clear BK368; clear HB; have HO356 := n0_; have HO359 := n1_; have HO363 := n2_; have HO366 := n3_; have HO372 := n4_; have HO375 := n5_; have BK351 := n6_; have BK368 := n7_; have HB := n8_; have BK376 := n9_; have GW376 := n10_; have GE376 := n11_; have NB351_376 := n12_; have NB376_351 := n13_; have NB368_376 := n14_; have NB376_368 := n15_; clear n0_ n1_ n2_ n3_ n4_ n5_ n6_ n7_ n8_ n9_ n10_ n11_ n12_ n13_ n14_ n15_; clear hb hbox hg; have hnb29 := NB376_351.out; have hnc29 := NB351_376.out; have hnb30 := NB376_368.out; have hnc30 := NB368_376.out; obtain ⟨hcz31_0, hcz31_1, hcz31_2, hfz31_0, hfz31_1, hfz31_2⟩ := ZD3 BK376; obtain ⟨Ao32, co32, eo32⟩ := Kd.R_slice HO372.out; subst eo32; obtain ⟨Ao33, co33, eo33⟩ := Kd.R_slice HO375.out; subst eo33) | ((with_reducible refine gate_callee (f := 24) rfl ?_); refine goesL_ (some 33) rfl rfl Try.func24 (by kernel_rfl) rfl #[.agg #[.int .i64 t369, .slice Ao32 t370.length co32, .slice Ao33 t373.length co33], .int .i64 a1] rfl ZA ?_; (with_reducible refine (impl_StepOfJacobi.calls k t369 _ _ t370 _ _ t373 a1 t377 t378 t381 t384 _ ?side1 ?side2 ?side3 ?side4 A11.out).mono ?_); (case side1 => refine (Kd.R_reads' (e := 2) (base := w.heap.size) (ok := fun k_ => ((((some k_ ≠ (.slice Ao33 t373.length co33 : Value).ownBlock ∧ some k_ ≠ (.slice Ao18 t354.length co18 : Value).ownBlock) ∧ some k_ ≠ (.slice Ao19 t357.length co19 : Value).ownBlock) ∧ some k_ ≠ (.slice Ao24 t361.length co24 : Value).ownBlock) ∧ some k_ ≠ (.slice Ao25 t364.length co25 : Value).ownBlock)) (n := t370.length) (c := co32) ?_).2.2; exact (ZQ (ZF3 HO372 BK376 (.int .i64 t369) (.slice Ao32 t370.length co32) (.slice Ao33 t373.length co33)))); (case side2 => exact (Kd.R_reads' HO372.out).2.1); (case side3 => refine (Kd.R_reads' (e := 2) (base := w.heap.size) (ok := fun k_ => ((((some k_ ≠ (.slice Ao32 t370.length co32 : Value).ownBlock ∧ some k_ ≠ (.slice Ao18 t354.length co18 : Value).ownBlock) ∧ some k_ ≠ (.slice Ao19 t357.length co19 : Value).ownBlock) ∧ some k_ ≠ (.slice Ao24 t361.length co24 : Value).ownBlock) ∧ some k_ ≠ (.slice Ao25 t364.length co25 : Value).ownBlock)) (n := t373.length) (c := co33) ?_).2.2; exact (ZQ (ZF3 HO375 BK376 (.int .i64 t369) (.slice Ao32 t370.length co32) (.slice Ao33 t373.length co33)))); (case side4 => exact (Kd.R_reads' HO375.out).2.1); rintro e w34 ⟨v379, v382, rfl, ho0, ho1, hb⟩; refine ⟨_, rfl, ?_⟩; have n0_ := Aside0.mk (Kd.R_mono (Kd.R_told (Kd.R_told (Kd.R_old (ZQ (ZF3 HO356 BK376 (.int .i64 t369) (.slice Ao32 t370.length co32) (.slice Ao33 t373.length co33))) hb) (Kd.R_base ho0)) (Kd.R_base ho1)) (fun _ h_ => h_.1)); have n1_ := Aside0.mk (Kd.R_mono (Kd.R_told (Kd.R_told (Kd.R_old (ZQ (ZF3 HO359 BK376 (.int .i64 t369) (.slice Ao32 t370.length co32) (.slice Ao33 t373.length co33))) hb) (Kd.R_base ho0)) (Kd.R_base ho1)) (fun _ h_ => h_.1)); have n2_ := Aside0.mk (Kd.R_mono (Kd.R_told (Kd.R_told (Kd.R_old (ZQ (ZF3 HO363 BK376 (.int .i64 t369) (.slice Ao32 t370.length co32) (.slice Ao33 t373.length co33))) hb) (Kd.R_base ho0)) (Kd.R_base ho1)) (fun _ h_ => h_.1)); have n3_ := Aside0.mk (Kd.R_mono (Kd.R_told (Kd.R_told (Kd.R_old (ZQ (ZF3 HO366 BK376 (.int .i64 t369) (.slice Ao32 t370.length co32) (.slice Ao33 t373.length co33))) hb) (Kd.R_base ho0)) (Kd.R_base ho1)) (fun _ h_ => h_.1)); have n4_ := Aside0.mk (Kd.R_mono (Kd.R_told (Kd.R_told (Kd.R_old (ZQ (ZF3 HO372 BK376 (.int .i64 t369) (.slice Ao32 t370.length co32) (.slice Ao33 t373.length co33))) hb) (Kd.R_base ho0)) (Kd.R_base ho1)) (fun _ h_ => h_.1)); have n5_ := Aside0.mk (Kd.R_mono (Kd.R_told (Kd.R_told (Kd.R_old (ZQ (ZF3 HO375 BK376 (.int .i64 t369) (.slice Ao32 t370.length co32) (.slice Ao33 t373.length co33))) hb) (Kd.R_base ho0)) (Kd.R_base ho1)) (fun _ h_ => h_.1)); have n6_ := Aside0.mk (Kd.R_lower (Kd.R_new' (Kd.R_new' (Kd.R_new' (Kd.R_new' (Kd.R_new' (Kd.R_new' ho0 (Kd.R_lt (ZQ (ZF3 HO356 BK376 (.int .i64 t369) (.slice Ao32 t370.length co32) (.slice Ao33 t373.length co33))))) (Kd.R_lt (ZQ (ZF3 HO359 BK376 (.int .i64 t369) (.slice Ao32 t370.length co32) (.slice Ao33 t373.length co33))))) (Kd.R_lt (ZQ (ZF3 HO363 BK376 (.int .i64 t369) (.slice Ao32 t370.length co32) (.slice Ao33 t373.length co33))))) (Kd.R_lt (ZQ (ZF3 HO366 BK376 (.int .i64 t369) (.slice Ao32 t370.length co32) (.slice Ao33 t373.length co33))))) (Kd.R_lt (ZQ (ZF3 HO372 BK376 (.int .i64 t369) (.slice Ao32 t370.length co32) (.slice Ao33 t373.length co33))))) (Kd.R_lt (ZQ (ZF3 HO375 BK376 (.int .i64 t369) (.slice Ao32 t370.length co32) (.slice Ao33 t373.length co33))))) (below_size ZB)); have n7_ := Aside0.mk (Kd.R_lower (Kd.R_new' (Kd.R_new' (Kd.R_new' (Kd.R_new' (Kd.R_new' (Kd.R_new' ho1 (Kd.R_lt (ZQ (ZF3 HO356 BK376 (.int .i64 t369) (.slice Ao32 t370.length co32) (.slice Ao33 t373.length co33))))) (Kd.R_lt (ZQ (ZF3 HO359 BK376 (.int .i64 t369) (.slice Ao32 t370.length co32) (.slice Ao33 t373.length co33))))) (Kd.R_lt (ZQ (ZF3 HO363 BK376 (.int .i64 t369) (.slice Ao32 t370.length co32) (.slice Ao33 t373.length co33))))) (Kd.R_lt (ZQ (ZF3 HO366 BK376 (.int .i64 t369) (.slice Ao32 t370.length co32) (.slice Ao33 t373.length co33))))) (Kd.R_lt (ZQ (ZF3 HO372 BK376 (.int .i64 t369) (.slice Ao32 t370.length co32) (.slice Ao33 t373.length co33))))) (Kd.R_lt (ZQ (ZF3 HO375 BK376 (.int .i64 t369) (.slice Ao32 t370.length co32) (.slice Ao33 t373.length co33))))) (below_size ZB)); have n8_ := Aside0.mk (blk_below (g := gb351) (o := .cells #[.int .i64 a0_0, .slice A0_1 l0_1.length c0_1, .slice A0_2 l0_2.length c0_2] 24 (0, 0)) (by refine ZS ?_; refine blk_far ?_ NB351_376.out _; refine ZS ?_; refine blk_far ?_ NB351_376.out _; refine ZS ?_; refine blk_far ?_ NB351_376.out _; refine ZS ?_; exact BK351.out) hb); have n9_ := Aside0.mk (blk_below (g := gb368) (o := .cells #[.int .i64 t360, .slice Ao24 t361.length co24, .slice Ao25 t364.length co25] 29 (0, 0)) (by refine ZS ?_; refine blk_far ?_ NB368_376.out _; refine ZS ?_; refine blk_far ?_ NB368_376.out _; refine ZS ?_; refine blk_far ?_ NB368_376.out _; refine ZS ?_; exact BK368.out) hb); have n10_ := Aside0.mk (blk_below (g := gb376) (o := .cells #[.int .i64 t369, .slice Ao32 t370.length co32, .slice Ao33 t373.length co33] 29 (0, 0)) (by refine ZS ?_; refine blk_put (cs := #[.int .i64 t369, .slice Ao32 t370.length co32, .slice none 0 0]) ?_ 2 _ rfl; refine ZS ?_; refine blk_put (cs := #[.int .i64 t369, .slice none 0 0, .slice none 0 0]) ?_ 1 _ rfl; refine ZS ?_; refine blk_put (cs := #[.int .i64 0, .slice none 0 0, .slice none 0 0]) ?_ 0 _ rfl; refine ZS ?_; exact BK376.out) hb); have n11_ := Aside0.mk (below_step ZB hb); clear HO356; clear HO359; clear HO363; clear HO366; clear HO372; clear HO375; clear BK351; clear BK368; clear BK376; clear HB; have HO356 := n0_; have HO359 := n1_; have HO363 := n2_; have HO366 := n3_; have HO372 := n4_; have HO375 := n5_; have HO380 := n6_; have HO383 := n7_; have BK351 := n8_; have BK368 := n9_; have BK376 := n10_; have HB := n11_; clear n0_ n1_ n2_ n3_ n4_ n5_ n6_ n7_ n8_ n9_ n10_ n11_; (try clear hb); (try clear hb2); (try clear hk); (try clear hi); (try clear ho0); (try clear ho1)) | ((with_reducible refine gate_dst (N := 9) rfl ?_); refine box_event ?hg (N := 9) ?hd (cs := #[.int .i64 0, .slice none 0 0, .slice none 0 0]) (t := 29) ?hr ?_; (case hd => rfl); (case hg => rfl); (case hr => first | (go_simp; done) | (go_simp; rfl)); intro gb385 hg w35 hbox hb; have n0_ := Aside0.mk (Kd.R_below (ZR HO356) hb); have n1_ := Aside0.mk (Kd.R_below (ZR HO359) hb); have n2_ := Aside0.mk (Kd.R_below (ZR HO363) hb); have n3_ := Aside0.mk (Kd.R_below (ZR HO366) hb); have n4_ := Aside0.mk (Kd.R_below (ZR HO372) hb); have n5_ := Aside0.mk (Kd.R_below (ZR HO375) hb); have n6_ := Aside0.mk (Kd.R_below (ZR HO380) hb); have n7_ := Aside0.mk (Kd.R_below (ZR HO383) hb); have n8_ := ZL BK351 hb; have n9_ := ZL BK368 hb; have n10_ := ZL BK376 hb; have n11_ := Aside0.mk (below_step ZB hb); have n12_ := Aside0.mk (hbox); have n13_ := Aside0.mk ((ZG hg : w.heap.size ≤ gb385)); have n14_ := Aside0.mk ((ZG hg : w.heap.size ≤ gb385)); have n15_ := Aside0.mk ((ZN hg BK351 : gb351 ≠ gb385)); have n16_ := Aside0.mk ((ZM hg BK351 : gb385 ≠ gb351)); have n17_ := Aside0.mk ((ZN hg BK368 : gb368 ≠ gb385)); have n18_ := Aside0.mk ((ZM hg BK368 : gb385 ≠ gb368)); have n19_ := Aside0.mk ((ZN hg BK376 : gb376 ≠ gb385)); have n20_ := Aside0.mk ((ZM hg BK376 : gb385 ≠ gb376)); clear HO356; clear HO359; clear HO363; clear HO366; clear HO372; clear HO375; clear HO380; clear HO383; clear BK351; clear BK368; clear BK376; clear HB; have HO356 := n0_; have HO359 := n1_; have HO363 := n2_; have HO366 := n3_; have HO372 := n4_; have HO375 := n5_; have HO380 := n6_; have HO383 := n7_; have BK351 := n8_; have BK368 := n9_; have BK376 := n10_; have HB := n11_; have BK385 := n12_; have GW385 := n13_; have GE385 := n14_; have NB351_385 := n15_; have NB385_351 := n16_; have NB368_385 := n17_; have NB385_368 := n18_; have NB376_385 := n19_; have NB385_376 := n20_; clear n0_ n1_ n2_ n3_ n4_ n5_ n6_ n7_ n8_ n9_ n10_ n11_ n12_ n13_ n14_ n15_ n16_ n17_ n18_ n19_ n20_; clear hb hbox hg; have hnb36 := NB385_351.out; have hnc36 := NB351_385.out; have hnb37 := NB385_368.out; have hnc37 := NB368_385.out; have hnb38 := NB385_376.out; have hnc38 := NB376_385.out; obtain ⟨hcz39_0, hcz39_1, hcz39_2, hfz39_0, hfz39_1, hfz39_2⟩ := ZD3 BK385; obtain ⟨Ao40, co40, eo40⟩ := Kd.R_slice HO380.out; subst eo40; obtain ⟨Ao41, co41, eo41⟩ := Kd.R_slice HO383.out; subst eo41))
  (try simp only [Act.put, List.setIfInBounds_toArray, List.set_cons_zero, List.set_cons_succ])
  go_cut [44] (fun v44 wc => ∃ (kq : Nat) (x44_11 : Bool), v44 = .bool x44_11 ∧ Aside0 (laws_FnExactStepOfJacobi.j0 kq a1 t367 t384 x44_11 a0_0 l0_1 l0_2 t360 t361 t364 t369 t370 t373 t377 t378 t381 = some r) ∧ Aside0 (kq ≤ k) ∧ Aside0 (Kd.R (Kd.int .i64) 2 wc w.heap.size (fun k_ => some k_ ≠ ((.slice Ao25 t364.length co25) : Value).ownBlock ∧ some k_ ≠ ((.slice Ao32 t370.length co32) : Value).ownBlock ∧ some k_ ≠ ((.slice Ao33 t373.length co33) : Value).ownBlock ∧ some k_ ≠ ((.slice Ao40 t378.length co40) : Value).ownBlock ∧ some k_ ≠ ((.slice Ao41 t381.length co41) : Value).ownBlock) (.slice Ao24 t361.length co24) t361) ∧ Aside0 (Kd.R (Kd.int .i64) 2 wc w.heap.size (fun k_ => some k_ ≠ ((.slice Ao24 t361.length co24) : Value).ownBlock ∧ some k_ ≠ ((.slice Ao32 t370.length co32) : Value).ownBlock ∧ some k_ ≠ ((.slice Ao33 t373.length co33) : Value).ownBlock ∧ some k_ ≠ ((.slice Ao40 t378.length co40) : Value).ownBlock ∧ some k_ ≠ ((.slice Ao41 t381.length co41) : Value).ownBlock) (.slice Ao25 t364.length co25) t364) ∧ Aside0 (Kd.R (Kd.int .i64) 2 wc w.heap.size (fun k_ => some k_ ≠ ((.slice Ao24 t361.length co24) : Value).ownBlock ∧ some k_ ≠ ((.slice Ao25 t364.length co25) : Value).ownBlock ∧ some k_ ≠ ((.slice Ao33 t373.length co33) : Value).ownBlock ∧ some k_ ≠ ((.slice Ao40 t378.length co40) : Value).ownBlock ∧ some k_ ≠ ((.slice Ao41 t381.length co41) : Value).ownBlock) (.slice Ao32 t370.length co32) t370) ∧ Aside0 (Kd.R (Kd.int .i64) 2 wc w.heap.size (fun k_ => some k_ ≠ ((.slice Ao24 t361.length co24) : Value).ownBlock ∧ some k_ ≠ ((.slice Ao25 t364.length co25) : Value).ownBlock ∧ some k_ ≠ ((.slice Ao32 t370.length co32) : Value).ownBlock ∧ some k_ ≠ ((.slice Ao40 t378.length co40) : Value).ownBlock ∧ some k_ ≠ ((.slice Ao41 t381.length co41) : Value).ownBlock) (.slice Ao33 t373.length co33) t373) ∧ Aside0 (Kd.R (Kd.int .i64) 2 wc w.heap.size (fun k_ => some k_ ≠ ((.slice Ao24 t361.length co24) : Value).ownBlock ∧ some k_ ≠ ((.slice Ao25 t364.length co25) : Value).ownBlock ∧ some k_ ≠ ((.slice Ao32 t370.length co32) : Value).ownBlock ∧ some k_ ≠ ((.slice Ao33 t373.length co33) : Value).ownBlock ∧ some k_ ≠ ((.slice Ao41 t381.length co41) : Value).ownBlock) (.slice Ao40 t378.length co40) t378) ∧ Aside0 (Kd.R (Kd.int .i64) 2 wc w.heap.size (fun k_ => some k_ ≠ ((.slice Ao24 t361.length co24) : Value).ownBlock ∧ some k_ ≠ ((.slice Ao25 t364.length co25) : Value).ownBlock ∧ some k_ ≠ ((.slice Ao32 t370.length co32) : Value).ownBlock ∧ some k_ ≠ ((.slice Ao33 t373.length co33) : Value).ownBlock ∧ some k_ ≠ ((.slice Ao40 t378.length co40) : Value).ownBlock) (.slice Ao41 t381.length co41) t381) ∧ Aside0 (wc.heap[gb351]? = some (.cells #[.int .i64 a0_0, (.slice A0_1 l0_1.length c0_1), (.slice A0_2 l0_2.length c0_2)] 24 (0, 0))) ∧ Aside0 (wc.heap[gb368]? = some (.cells #[.int .i64 t360, (.slice Ao24 t361.length co24), (.slice Ao25 t364.length co25)] 29 (0, 0))) ∧ Aside0 (wc.heap[gb376]? = some (.cells #[.int .i64 t369, (.slice Ao32 t370.length co32), (.slice Ao33 t373.length co33)] 29 (0, 0))) ∧ Aside0 (wc.heap[gb385]? = some (.cells #[.int .i64 t377, (.slice Ao40 t378.length co40), (.slice Ao41 t381.length co41)] 29 (0, 0))) ∧ Aside0 (Below w.heap.size w wc))
  case first =>
   have H := HC12.out
   clear HC12
   replace H := Option.bind_eq_some_iff.mp H
   obtain ⟨t386, A420, H⟩ := H
   replace H : (if t386 = true then (laws_FnExactStepOfJacobi.j0 k a1 t367 t384 (t384 != t367) a0_0 l0_1 l0_2 t360 t361 t364 t369 t370 t373 t377 t378 t381) else (laws_FnExactStepOfJacobi.j0 k a1 t367 t384 true a0_0 l0_1 l0_2 t360 t361 t364 t369 t370 t373 t377 t378 t381)) = some r := H
   have A42 := Aside0.mk A420
   clear A420
   by_cases c43 : t386 = true
   ·subst c43
    have H1 : (laws_FnExactStepOfJacobi.j0 k a1 t367 t384 (t384 != t367) a0_0 l0_1 l0_2 t360 t361 t364 t369 t370 t373 t377 t378 t381) = some r := by rw [if_pos rfl] at H; exact H
    clear H
    have H := H1
    clear H1
    have H' := Aside0.mk H
    clear H
    have hnb44 := NB385_351.out
    have hnc44 := NB351_385.out
    have hnb45 := NB385_368.out
    have hnc45 := NB368_385.out
    have hnb46 := NB385_376.out
    have hnc46 := NB376_385.out
    obtain ⟨hcz47_0, hcz47_1, hcz47_2, hfz47_0, hfz47_1, hfz47_2⟩ := ZD3 BK385
    have hnb48 := NB368_351.out
    have hnc48 := NB351_368.out
    have hnb49 := NB368_376.out
    have hnc49 := NB376_368.out
    obtain ⟨hcz50_0, hcz50_1, hcz50_2, hfz50_0, hfz50_1, hfz50_2⟩ := ZD3 BK368
    go_wp2_with (first | ((with_reducible refine gate_callee (f := 19) rfl ?_); refine goesL_ (some 38) rfl rfl Try.func19 (by kernel_rfl) rfl #[.agg #[.int .i64 t377, .slice Ao40 t378.length co40, .slice Ao41 t381.length co41], .agg #[.int .i64 t360, .slice Ao24 t361.length co24, .slice Ao25 t364.length co25]] rfl ZA ?_; (with_reducible refine (laws_eqJacobi.calls k t377 _ _ t378 _ _ t381 t360 _ _ t361 _ _ t364 true _ ?side1 ?side2 ?side3 ?side4 ?side5 ?side6 ?side7 ?side8 A42.out).mono ?_); (case side1 => refine (Kd.R_reads' (e := 2) (base := w.heap.size) (ok := fun k_ => ((((((some k_ ≠ (.slice Ao41 t381.length co41 : Value).ownBlock ∧ some k_ ≠ (.slice Ao18 t354.length co18 : Value).ownBlock) ∧ some k_ ≠ (.slice Ao19 t357.length co19 : Value).ownBlock) ∧ some k_ ≠ (.slice Ao24 t361.length co24 : Value).ownBlock) ∧ some k_ ≠ (.slice Ao25 t364.length co25 : Value).ownBlock) ∧ some k_ ≠ (.slice Ao32 t370.length co32 : Value).ownBlock) ∧ some k_ ≠ (.slice Ao33 t373.length co33 : Value).ownBlock)) (n := t378.length) (c := co40) ?_).2.2; exact (ZQ (ZF3 HO380 BK385 (.int .i64 t377) (.slice Ao40 t378.length co40) (.slice Ao41 t381.length co41)))); (case side2 => exact (Kd.R_reads' HO380.out).2.1); (case side3 => refine (Kd.R_reads' (e := 2) (base := w.heap.size) (ok := fun k_ => ((((((some k_ ≠ (.slice Ao40 t378.length co40 : Value).ownBlock ∧ some k_ ≠ (.slice Ao18 t354.length co18 : Value).ownBlock) ∧ some k_ ≠ (.slice Ao19 t357.length co19 : Value).ownBlock) ∧ some k_ ≠ (.slice Ao24 t361.length co24 : Value).ownBlock) ∧ some k_ ≠ (.slice Ao25 t364.length co25 : Value).ownBlock) ∧ some k_ ≠ (.slice Ao32 t370.length co32 : Value).ownBlock) ∧ some k_ ≠ (.slice Ao33 t373.length co33 : Value).ownBlock)) (n := t381.length) (c := co41) ?_).2.2; exact (ZQ (ZF3 HO383 BK385 (.int .i64 t377) (.slice Ao40 t378.length co40) (.slice Ao41 t381.length co41)))); (case side4 => exact (Kd.R_reads' HO383.out).2.1); (case side5 => refine (Kd.R_reads' (e := 2) (base := w.heap.size) (ok := fun k_ => ((((((some k_ ≠ (.slice Ao25 t364.length co25 : Value).ownBlock ∧ some k_ ≠ (.slice Ao18 t354.length co18 : Value).ownBlock) ∧ some k_ ≠ (.slice Ao19 t357.length co19 : Value).ownBlock) ∧ some k_ ≠ (.slice Ao32 t370.length co32 : Value).ownBlock) ∧ some k_ ≠ (.slice Ao33 t373.length co33 : Value).ownBlock) ∧ some k_ ≠ (.slice Ao40 t378.length co40 : Value).ownBlock) ∧ some k_ ≠ (.slice Ao41 t381.length co41 : Value).ownBlock)) (n := t361.length) (c := co24) ?_).2.2; exact (ZQ (ZF3 HO363 BK385 (.int .i64 t377) (.slice Ao40 t378.length co40) (.slice Ao41 t381.length co41)))); (case side6 => exact (Kd.R_reads' HO363.out).2.1); (case side7 => refine (Kd.R_reads' (e := 2) (base := w.heap.size) (ok := fun k_ => ((((((some k_ ≠ (.slice Ao24 t361.length co24 : Value).ownBlock ∧ some k_ ≠ (.slice Ao18 t354.length co18 : Value).ownBlock) ∧ some k_ ≠ (.slice Ao19 t357.length co19 : Value).ownBlock) ∧ some k_ ≠ (.slice Ao32 t370.length co32 : Value).ownBlock) ∧ some k_ ≠ (.slice Ao33 t373.length co33 : Value).ownBlock) ∧ some k_ ≠ (.slice Ao40 t378.length co40 : Value).ownBlock) ∧ some k_ ≠ (.slice Ao41 t381.length co41 : Value).ownBlock)) (n := t364.length) (c := co25) ?_).2.2; exact (ZQ (ZF3 HO366 BK385 (.int .i64 t377) (.slice Ao40 t378.length co40) (.slice Ao41 t381.length co41)))); (case side8 => exact (Kd.R_reads' HO366.out).2.1); rintro e w51 ⟨rfl, hb⟩; refine ⟨_, rfl, ?_⟩; have n0_ := Aside0.mk (Kd.R_below (ZQ (ZF3 HO356 BK385 (.int .i64 t377) (.slice Ao40 t378.length co40) (.slice Ao41 t381.length co41))) hb); have n1_ := Aside0.mk (Kd.R_below (ZQ (ZF3 HO359 BK385 (.int .i64 t377) (.slice Ao40 t378.length co40) (.slice Ao41 t381.length co41))) hb); have n2_ := Aside0.mk (Kd.R_below (ZQ (ZF3 HO363 BK385 (.int .i64 t377) (.slice Ao40 t378.length co40) (.slice Ao41 t381.length co41))) hb); have n3_ := Aside0.mk (Kd.R_below (ZQ (ZF3 HO366 BK385 (.int .i64 t377) (.slice Ao40 t378.length co40) (.slice Ao41 t381.length co41))) hb); have n4_ := Aside0.mk (Kd.R_below (ZQ (ZF3 HO372 BK385 (.int .i64 t377) (.slice Ao40 t378.length co40) (.slice Ao41 t381.length co41))) hb); have n5_ := Aside0.mk (Kd.R_below (ZQ (ZF3 HO375 BK385 (.int .i64 t377) (.slice Ao40 t378.length co40) (.slice Ao41 t381.length co41))) hb); have n6_ := Aside0.mk (Kd.R_below (ZQ (ZF3 HO380 BK385 (.int .i64 t377) (.slice Ao40 t378.length co40) (.slice Ao41 t381.length co41))) hb); have n7_ := Aside0.mk (Kd.R_below (ZQ (ZF3 HO383 BK385 (.int .i64 t377) (.slice Ao40 t378.length co40) (.slice Ao41 t381.length co41))) hb); have n8_ := Aside0.mk (blk_below (g := gb351) (o := .cells #[.int .i64 a0_0, .slice A0_1 l0_1.length c0_1, .slice A0_2 l0_2.length c0_2] 24 (0, 0)) (by refine ZS ?_; refine blk_far ?_ NB351_385.out _; refine ZS ?_; refine blk_far ?_ NB351_385.out _; refine ZS ?_; refine blk_far ?_ NB351_385.out _; refine ZS ?_; exact BK351.out) hb); have n9_ := Aside0.mk (blk_below (g := gb368) (o := .cells #[.int .i64 t360, .slice Ao24 t361.length co24, .slice Ao25 t364.length co25] 29 (0, 0)) (by refine ZS ?_; refine blk_far ?_ NB368_385.out _; refine ZS ?_; refine blk_far ?_ NB368_385.out _; refine ZS ?_; refine blk_far ?_ NB368_385.out _; refine ZS ?_; exact BK368.out) hb); have n10_ := Aside0.mk (blk_below (g := gb376) (o := .cells #[.int .i64 t369, .slice Ao32 t370.length co32, .slice Ao33 t373.length co33] 29 (0, 0)) (by refine ZS ?_; refine blk_far ?_ NB376_385.out _; refine ZS ?_; refine blk_far ?_ NB376_385.out _; refine ZS ?_; refine blk_far ?_ NB376_385.out _; refine ZS ?_; exact BK376.out) hb); have n11_ := Aside0.mk (blk_below (g := gb385) (o := .cells #[.int .i64 t377, .slice Ao40 t378.length co40, .slice Ao41 t381.length co41] 29 (0, 0)) (by refine ZS ?_; refine blk_put (cs := #[.int .i64 t377, .slice Ao40 t378.length co40, .slice none 0 0]) ?_ 2 _ rfl; refine ZS ?_; refine blk_put (cs := #[.int .i64 t377, .slice none 0 0, .slice none 0 0]) ?_ 1 _ rfl; refine ZS ?_; refine blk_put (cs := #[.int .i64 0, .slice none 0 0, .slice none 0 0]) ?_ 0 _ rfl; refine ZS ?_; exact BK385.out) hb); have n12_ := Aside0.mk (below_step ZB hb); clear HO356; clear HO359; clear HO363; clear HO366; clear HO372; clear HO375; clear HO380; clear HO383; clear BK351; clear BK368; clear BK376; clear BK385; clear HB; have HO356 := n0_; have HO359 := n1_; have HO363 := n2_; have HO366 := n3_; have HO372 := n4_; have HO375 := n5_; have HO380 := n6_; have HO383 := n7_; have BK351 := n8_; have BK368 := n9_; have BK376 := n10_; have BK385 := n11_; have HB := n12_; clear n0_ n1_ n2_ n3_ n4_ n5_ n6_ n7_ n8_ n9_ n10_ n11_ n12_; (try clear hb); (try clear hb2); (try clear hk); (try clear hi)))
    go_meet
    case rel => exact ⟨_, ((t384 != t367)), (by first | rfl | (simp; done) | (simp [*]; done)), H', ⟨by first | omega | exact Nat.le_refl _⟩, ⟨by refine ZQ ?_; exact Kd.R_mono HO363.out (fun _ hk => (And.intro (hk.1.1.1.1.1.1) ((And.intro (hk.1.1.1.2) ((And.intro (hk.1.1.2) ((And.intro (hk.1.2) (hk.2)))))))))⟩, ⟨by refine ZQ ?_; exact Kd.R_mono HO366.out (fun _ hk => (And.intro (hk.1.1.1.1.1.1) ((And.intro (hk.1.1.1.2) ((And.intro (hk.1.1.2) ((And.intro (hk.1.2) (hk.2)))))))))⟩, ⟨by refine ZQ ?_; exact Kd.R_mono HO372.out (fun _ hk => (And.intro (hk.1.1.1.2) ((And.intro (hk.1.1.2) ((And.intro (hk.1.1.1.1.1.1) ((And.intro (hk.1.2) (hk.2)))))))))⟩, ⟨by refine ZQ ?_; exact Kd.R_mono HO375.out (fun _ hk => (And.intro (hk.1.1.1.2) ((And.intro (hk.1.1.2) ((And.intro (hk.1.1.1.1.1.1) ((And.intro (hk.1.2) (hk.2)))))))))⟩, ⟨by refine ZQ ?_; exact Kd.R_mono HO380.out (fun _ hk => (And.intro (hk.1.1.1.2) ((And.intro (hk.1.1.2) ((And.intro (hk.1.2) ((And.intro (hk.2) (hk.1.1.1.1.1.1)))))))))⟩, ⟨by refine ZQ ?_; exact Kd.R_mono HO383.out (fun _ hk => (And.intro (hk.1.1.1.2) ((And.intro (hk.1.1.2) ((And.intro (hk.1.2) ((And.intro (hk.2) (hk.1.1.1.1.1.1)))))))))⟩, ⟨ZK BK351⟩, ⟨ZK BK368⟩, ⟨ZK BK376⟩, ⟨ZK BK385⟩, ⟨ZB⟩⟩
   ·replace c43 := Bool.eq_false_iff.mpr c43
    subst c43
    have H1 : (laws_FnExactStepOfJacobi.j0 k a1 t367 t384 true a0_0 l0_1 l0_2 t360 t361 t364 t369 t370 t373 t377 t378 t381) = some r := by rw [if_neg (show ¬ (false = true) by decide)] at H; exact H
    clear H
    have H := H1
    clear H1
    have H' := Aside0.mk H
    clear H
    have hnb52 := NB385_351.out
    have hnc52 := NB351_385.out
    have hnb53 := NB385_368.out
    have hnc53 := NB368_385.out
    have hnb54 := NB385_376.out
    have hnc54 := NB376_385.out
    obtain ⟨hcz55_0, hcz55_1, hcz55_2, hfz55_0, hfz55_1, hfz55_2⟩ := ZD3 BK385
    have hnb56 := NB368_351.out
    have hnc56 := NB351_368.out
    have hnb57 := NB368_376.out
    have hnc57 := NB376_368.out
    obtain ⟨hcz58_0, hcz58_1, hcz58_2, hfz58_0, hfz58_1, hfz58_2⟩ := ZD3 BK368
    go_wp2_with (first | ((with_reducible refine gate_callee (f := 19) rfl ?_); refine goesL_ (some 38) rfl rfl Try.func19 (by kernel_rfl) rfl #[.agg #[.int .i64 t377, .slice Ao40 t378.length co40, .slice Ao41 t381.length co41], .agg #[.int .i64 t360, .slice Ao24 t361.length co24, .slice Ao25 t364.length co25]] rfl ZA ?_; (with_reducible refine (laws_eqJacobi.calls k t377 _ _ t378 _ _ t381 t360 _ _ t361 _ _ t364 false _ ?side1 ?side2 ?side3 ?side4 ?side5 ?side6 ?side7 ?side8 A42.out).mono ?_); (case side1 => refine (Kd.R_reads' (e := 2) (base := w.heap.size) (ok := fun k_ => ((((((some k_ ≠ (.slice Ao41 t381.length co41 : Value).ownBlock ∧ some k_ ≠ (.slice Ao18 t354.length co18 : Value).ownBlock) ∧ some k_ ≠ (.slice Ao19 t357.length co19 : Value).ownBlock) ∧ some k_ ≠ (.slice Ao24 t361.length co24 : Value).ownBlock) ∧ some k_ ≠ (.slice Ao25 t364.length co25 : Value).ownBlock) ∧ some k_ ≠ (.slice Ao32 t370.length co32 : Value).ownBlock) ∧ some k_ ≠ (.slice Ao33 t373.length co33 : Value).ownBlock)) (n := t378.length) (c := co40) ?_).2.2; exact (ZQ (ZF3 HO380 BK385 (.int .i64 t377) (.slice Ao40 t378.length co40) (.slice Ao41 t381.length co41)))); (case side2 => exact (Kd.R_reads' HO380.out).2.1); (case side3 => refine (Kd.R_reads' (e := 2) (base := w.heap.size) (ok := fun k_ => ((((((some k_ ≠ (.slice Ao40 t378.length co40 : Value).ownBlock ∧ some k_ ≠ (.slice Ao18 t354.length co18 : Value).ownBlock) ∧ some k_ ≠ (.slice Ao19 t357.length co19 : Value).ownBlock) ∧ some k_ ≠ (.slice Ao24 t361.length co24 : Value).ownBlock) ∧ some k_ ≠ (.slice Ao25 t364.length co25 : Value).ownBlock) ∧ some k_ ≠ (.slice Ao32 t370.length co32 : Value).ownBlock) ∧ some k_ ≠ (.slice Ao33 t373.length co33 : Value).ownBlock)) (n := t381.length) (c := co41) ?_).2.2; exact (ZQ (ZF3 HO383 BK385 (.int .i64 t377) (.slice Ao40 t378.length co40) (.slice Ao41 t381.length co41)))); (case side4 => exact (Kd.R_reads' HO383.out).2.1); (case side5 => refine (Kd.R_reads' (e := 2) (base := w.heap.size) (ok := fun k_ => ((((((some k_ ≠ (.slice Ao25 t364.length co25 : Value).ownBlock ∧ some k_ ≠ (.slice Ao18 t354.length co18 : Value).ownBlock) ∧ some k_ ≠ (.slice Ao19 t357.length co19 : Value).ownBlock) ∧ some k_ ≠ (.slice Ao32 t370.length co32 : Value).ownBlock) ∧ some k_ ≠ (.slice Ao33 t373.length co33 : Value).ownBlock) ∧ some k_ ≠ (.slice Ao40 t378.length co40 : Value).ownBlock) ∧ some k_ ≠ (.slice Ao41 t381.length co41 : Value).ownBlock)) (n := t361.length) (c := co24) ?_).2.2; exact (ZQ (ZF3 HO363 BK385 (.int .i64 t377) (.slice Ao40 t378.length co40) (.slice Ao41 t381.length co41)))); (case side6 => exact (Kd.R_reads' HO363.out).2.1); (case side7 => refine (Kd.R_reads' (e := 2) (base := w.heap.size) (ok := fun k_ => ((((((some k_ ≠ (.slice Ao24 t361.length co24 : Value).ownBlock ∧ some k_ ≠ (.slice Ao18 t354.length co18 : Value).ownBlock) ∧ some k_ ≠ (.slice Ao19 t357.length co19 : Value).ownBlock) ∧ some k_ ≠ (.slice Ao32 t370.length co32 : Value).ownBlock) ∧ some k_ ≠ (.slice Ao33 t373.length co33 : Value).ownBlock) ∧ some k_ ≠ (.slice Ao40 t378.length co40 : Value).ownBlock) ∧ some k_ ≠ (.slice Ao41 t381.length co41 : Value).ownBlock)) (n := t364.length) (c := co25) ?_).2.2; exact (ZQ (ZF3 HO366 BK385 (.int .i64 t377) (.slice Ao40 t378.length co40) (.slice Ao41 t381.length co41)))); (case side8 => exact (Kd.R_reads' HO366.out).2.1); rintro e w59 ⟨rfl, hb⟩; refine ⟨_, rfl, ?_⟩; have n0_ := Aside0.mk (Kd.R_below (ZQ (ZF3 HO356 BK385 (.int .i64 t377) (.slice Ao40 t378.length co40) (.slice Ao41 t381.length co41))) hb); have n1_ := Aside0.mk (Kd.R_below (ZQ (ZF3 HO359 BK385 (.int .i64 t377) (.slice Ao40 t378.length co40) (.slice Ao41 t381.length co41))) hb); have n2_ := Aside0.mk (Kd.R_below (ZQ (ZF3 HO363 BK385 (.int .i64 t377) (.slice Ao40 t378.length co40) (.slice Ao41 t381.length co41))) hb); have n3_ := Aside0.mk (Kd.R_below (ZQ (ZF3 HO366 BK385 (.int .i64 t377) (.slice Ao40 t378.length co40) (.slice Ao41 t381.length co41))) hb); have n4_ := Aside0.mk (Kd.R_below (ZQ (ZF3 HO372 BK385 (.int .i64 t377) (.slice Ao40 t378.length co40) (.slice Ao41 t381.length co41))) hb); have n5_ := Aside0.mk (Kd.R_below (ZQ (ZF3 HO375 BK385 (.int .i64 t377) (.slice Ao40 t378.length co40) (.slice Ao41 t381.length co41))) hb); have n6_ := Aside0.mk (Kd.R_below (ZQ (ZF3 HO380 BK385 (.int .i64 t377) (.slice Ao40 t378.length co40) (.slice Ao41 t381.length co41))) hb); have n7_ := Aside0.mk (Kd.R_below (ZQ (ZF3 HO383 BK385 (.int .i64 t377) (.slice Ao40 t378.length co40) (.slice Ao41 t381.length co41))) hb); have n8_ := Aside0.mk (blk_below (g := gb351) (o := .cells #[.int .i64 a0_0, .slice A0_1 l0_1.length c0_1, .slice A0_2 l0_2.length c0_2] 24 (0, 0)) (by refine ZS ?_; refine blk_far ?_ NB351_385.out _; refine ZS ?_; refine blk_far ?_ NB351_385.out _; refine ZS ?_; refine blk_far ?_ NB351_385.out _; refine ZS ?_; exact BK351.out) hb); have n9_ := Aside0.mk (blk_below (g := gb368) (o := .cells #[.int .i64 t360, .slice Ao24 t361.length co24, .slice Ao25 t364.length co25] 29 (0, 0)) (by refine ZS ?_; refine blk_far ?_ NB368_385.out _; refine ZS ?_; refine blk_far ?_ NB368_385.out _; refine ZS ?_; refine blk_far ?_ NB368_385.out _; refine ZS ?_; exact BK368.out) hb); have n10_ := Aside0.mk (blk_below (g := gb376) (o := .cells #[.int .i64 t369, .slice Ao32 t370.length co32, .slice Ao33 t373.length co33] 29 (0, 0)) (by refine ZS ?_; refine blk_far ?_ NB376_385.out _; refine ZS ?_; refine blk_far ?_ NB376_385.out _; refine ZS ?_; refine blk_far ?_ NB376_385.out _; refine ZS ?_; exact BK376.out) hb); have n11_ := Aside0.mk (blk_below (g := gb385) (o := .cells #[.int .i64 t377, .slice Ao40 t378.length co40, .slice Ao41 t381.length co41] 29 (0, 0)) (by refine ZS ?_; refine blk_put (cs := #[.int .i64 t377, .slice Ao40 t378.length co40, .slice none 0 0]) ?_ 2 _ rfl; refine ZS ?_; refine blk_put (cs := #[.int .i64 t377, .slice none 0 0, .slice none 0 0]) ?_ 1 _ rfl; refine ZS ?_; refine blk_put (cs := #[.int .i64 0, .slice none 0 0, .slice none 0 0]) ?_ 0 _ rfl; refine ZS ?_; exact BK385.out) hb); have n12_ := Aside0.mk (below_step ZB hb); clear HO356; clear HO359; clear HO363; clear HO366; clear HO372; clear HO375; clear HO380; clear HO383; clear BK351; clear BK368; clear BK376; clear BK385; clear HB; have HO356 := n0_; have HO359 := n1_; have HO363 := n2_; have HO366 := n3_; have HO372 := n4_; have HO375 := n5_; have HO380 := n6_; have HO383 := n7_; have BK351 := n8_; have BK368 := n9_; have BK376 := n10_; have BK385 := n11_; have HB := n12_; clear n0_ n1_ n2_ n3_ n4_ n5_ n6_ n7_ n8_ n9_ n10_ n11_ n12_; (try clear hb); (try clear hb2); (try clear hk); (try clear hi)))
    go_meet
    case rel => exact ⟨_, (true), (by first | rfl | (simp; done) | (simp [*]; done)), H', ⟨by first | omega | exact Nat.le_refl _⟩, ⟨by refine ZQ ?_; exact Kd.R_mono HO363.out (fun _ hk => (And.intro (hk.1.1.1.1.1.1) ((And.intro (hk.1.1.1.2) ((And.intro (hk.1.1.2) ((And.intro (hk.1.2) (hk.2)))))))))⟩, ⟨by refine ZQ ?_; exact Kd.R_mono HO366.out (fun _ hk => (And.intro (hk.1.1.1.1.1.1) ((And.intro (hk.1.1.1.2) ((And.intro (hk.1.1.2) ((And.intro (hk.1.2) (hk.2)))))))))⟩, ⟨by refine ZQ ?_; exact Kd.R_mono HO372.out (fun _ hk => (And.intro (hk.1.1.1.2) ((And.intro (hk.1.1.2) ((And.intro (hk.1.1.1.1.1.1) ((And.intro (hk.1.2) (hk.2)))))))))⟩, ⟨by refine ZQ ?_; exact Kd.R_mono HO375.out (fun _ hk => (And.intro (hk.1.1.1.2) ((And.intro (hk.1.1.2) ((And.intro (hk.1.1.1.1.1.1) ((And.intro (hk.1.2) (hk.2)))))))))⟩, ⟨by refine ZQ ?_; exact Kd.R_mono HO380.out (fun _ hk => (And.intro (hk.1.1.1.2) ((And.intro (hk.1.1.2) ((And.intro (hk.1.2) ((And.intro (hk.2) (hk.1.1.1.1.1.1)))))))))⟩, ⟨by refine ZQ ?_; exact Kd.R_mono HO383.out (fun _ hk => (And.intro (hk.1.1.1.2) ((And.intro (hk.1.1.2) ((And.intro (hk.1.2) ((And.intro (hk.2) (hk.1.1.1.1.1.1)))))))))⟩, ⟨ZK BK351⟩, ⟨ZK BK368⟩, ⟨ZK BK376⟩, ⟨ZK BK385⟩, ⟨ZB⟩⟩
  case rest =>
   clear HC12
   try clear c1
   try clear c2
   try clear p2
   try clear c3
   try clear c4
   try clear c4b0
   try clear c5
   try clear c14
   try clear c16
   try clear c19
   try clear c22
   try clear c23
   try clear c24
   try clear c29
   try clear c30
   try clear c36
   try clear c37
   try clear c38
   try clear c43
   try clear c44
   try clear c45
   try clear c46
   try clear c48
   try clear c49
   try clear c52
   try clear c53
   try clear c54
   try clear c56
   try clear c57
   try clear hcz14_0
   try clear hcz14_1
   try clear hcz14_2
   try clear hcz16_0
   try clear hcz16_1
   try clear hcz16_2
   try clear hcz23_0
   try clear hcz23_1
   try clear hcz23_2
   try clear hcz26_0
   try clear hcz26_1
   try clear hcz26_2
   try clear hcz31_0
   try clear hcz31_1
   try clear hcz31_2
   try clear hcz39_0
   try clear hcz39_1
   try clear hcz39_2
   try clear hcz47_0
   try clear hcz47_1
   try clear hcz47_2
   try clear hcz50_0
   try clear hcz50_1
   try clear hcz50_2
   try clear hcz55_0
   try clear hcz55_1
   try clear hcz55_2
   try clear hcz58_0
   try clear hcz58_1
   try clear hcz58_2
   try clear hcz6_0
   try clear hcz6_1
   try clear hcz6_2
   try clear hfz14_0
   try clear hfz14_1
   try clear hfz14_2
   try clear hfz16_0
   try clear hfz16_1
   try clear hfz16_2
   try clear hfz23_0
   try clear hfz23_1
   try clear hfz23_2
   try clear hfz26_0
   try clear hfz26_1
   try clear hfz26_2
   try clear hfz31_0
   try clear hfz31_1
   try clear hfz31_2
   try clear hfz39_0
   try clear hfz39_1
   try clear hfz39_2
   try clear hfz47_0
   try clear hfz47_1
   try clear hfz47_2
   try clear hfz50_0
   try clear hfz50_1
   try clear hfz50_2
   try clear hfz55_0
   try clear hfz55_1
   try clear hfz55_2
   try clear hfz58_0
   try clear hfz58_1
   try clear hfz58_2
   try clear hfz6_0
   try clear hfz6_1
   try clear hfz6_2
   obtain ⟨kq, x44_11, rfl, HA, HJ11, HO_369001, HO_369002, HO_377001, HO_377002, HO_386001, HO_386002, BK351, BK368, BK376, BK385, HB⟩ := hcut
   cases kq with
   | zero => exact absurd HA.out (by simp [laws_FnExactStepOfJacobi.j0])
   | succ kj11 =>
    have H := HA.out
    clear HA
    simp only [laws_FnExactStepOfJacobi.j0] at H
    by_cases c60 : x44_11 = true
    ·subst c60
     have H1 : (some false) = some r := by rw [if_pos rfl] at H; exact H
     clear H
     have H := H1
     clear H1
     exact absurd (H.trans (congrArg some hT.out)) (by simp)
    ·replace c60 := Bool.eq_false_iff.mpr c60
     subst c60
     have H1 : ((laws_toJacobi.f kj11 a0_0 l0_1 l0_2).bind fun bt387 => ((laws_eqJacobi.f kj11 t369 t370 t373 bt387.1 bt387.2.1 bt387.2.2).bind fun t394 => (if t394 = true then ((laws_markJacobi.f kj11 t369 t370 t373 1).bind fun bt395 => (if bt395.1 < 0 then (laws_FnExactStepOfJacobi.j1 kj11 a1 t367 true a0_0 l0_1 l0_2 t360 t361 t364 t377 t378 t381) else ((laws_eqJacobi.f kj11 t377 t378 t381 t360 t361 t364).bind fun t398 => (if t398 = true then (laws_FnExactStepOfJacobi.j1 kj11 a1 t367 (t384 != t367) a0_0 l0_1 l0_2 t360 t361 t364 t377 t378 t381) else (laws_FnExactStepOfJacobi.j1 kj11 a1 t367 true a0_0 l0_1 l0_2 t360 t361 t364 t377 t378 t381))))) else (some false)))) = some r := by rw [if_neg (show ¬ (false = true) by decide)] at H; exact H
     clear H
     have H := H1
     clear H1
     replace H := Option.bind_eq_some_iff.mp H
     obtain ⟨⟨t387, t388, t391⟩, A610, H⟩ := H
     replace H : ((laws_eqJacobi.f kj11 t369 t370 t373 t387 t388 t391).bind fun t394 => (if t394 = true then ((laws_markJacobi.f kj11 t369 t370 t373 1).bind fun bt395 => (if bt395.1 < 0 then (laws_FnExactStepOfJacobi.j1 kj11 a1 t367 true a0_0 l0_1 l0_2 t360 t361 t364 t377 t378 t381) else ((laws_eqJacobi.f kj11 t377 t378 t381 t360 t361 t364).bind fun t398 => (if t398 = true then (laws_FnExactStepOfJacobi.j1 kj11 a1 t367 (t384 != t367) a0_0 l0_1 l0_2 t360 t361 t364 t377 t378 t381) else (laws_FnExactStepOfJacobi.j1 kj11 a1 t367 true a0_0 l0_1 l0_2 t360 t361 t364 t377 t378 t381))))) else (some false))) = some r := H
     have A61 := Aside0.mk A610
     clear A610
     replace H := Option.bind_eq_some_iff.mp H
     obtain ⟨t394, A620, H⟩ := H
     replace H : (if t394 = true then ((laws_markJacobi.f kj11 t369 t370 t373 1).bind fun bt395 => (if bt395.1 < 0 then (laws_FnExactStepOfJacobi.j1 kj11 a1 t367 true a0_0 l0_1 l0_2 t360 t361 t364 t377 t378 t381) else ((laws_eqJacobi.f kj11 t377 t378 t381 t360 t361 t364).bind fun t398 => (if t398 = true then (laws_FnExactStepOfJacobi.j1 kj11 a1 t367 (t384 != t367) a0_0 l0_1 l0_2 t360 t361 t364 t377 t378 t381) else (laws_FnExactStepOfJacobi.j1 kj11 a1 t367 true a0_0 l0_1 l0_2 t360 t361 t364 t377 t378 t381))))) else (some false)) = some r := H
     have A62 := Aside0.mk A620
     clear A620
     by_cases c63 : t394 = true
     ·subst c63
      have H1 : ((laws_markJacobi.f kj11 t369 t370 t373 1).bind fun bt395 => (if bt395.1 < 0 then (laws_FnExactStepOfJacobi.j1 kj11 a1 t367 true a0_0 l0_1 l0_2 t360 t361 t364 t377 t378 t381) else ((laws_eqJacobi.f kj11 t377 t378 t381 t360 t361 t364).bind fun t398 => (if t398 = true then (laws_FnExactStepOfJacobi.j1 kj11 a1 t367 (t384 != t367) a0_0 l0_1 l0_2 t360 t361 t364 t377 t378 t381) else (laws_FnExactStepOfJacobi.j1 kj11 a1 t367 true a0_0 l0_1 l0_2 t360 t361 t364 t377 t378 t381))))) = some r := by rw [if_pos rfl] at H; exact H
      clear H
      have H := H1
      clear H1
      replace H := Option.bind_eq_some_iff.mp H
      obtain ⟨⟨t395, t396, t397⟩, A640, H⟩ := H
      replace H : (if t395 < 0 then (laws_FnExactStepOfJacobi.j1 kj11 a1 t367 true a0_0 l0_1 l0_2 t360 t361 t364 t377 t378 t381) else ((laws_eqJacobi.f kj11 t377 t378 t381 t360 t361 t364).bind fun t398 => (if t398 = true then (laws_FnExactStepOfJacobi.j1 kj11 a1 t367 (t384 != t367) a0_0 l0_1 l0_2 t360 t361 t364 t377 t378 t381) else (laws_FnExactStepOfJacobi.j1 kj11 a1 t367 true a0_0 l0_1 l0_2 t360 t361 t364 t377 t378 t381)))) = some r := H
      have A64 := Aside0.mk A640
      clear A640
      have HC65 := Aside0.mk H
      clear H
      try go_wp2
      have n0_ := Aside0.mk (Kd.R_drew HO_369001.out)
      have n1_ := Aside0.mk (Kd.R_drew HO_369002.out)
      have n2_ := Aside0.mk (Kd.R_drew HO_377001.out)
      have n3_ := Aside0.mk (Kd.R_drew HO_377002.out)
      have n4_ := Aside0.mk (Kd.R_drew HO_386001.out)
      have n5_ := Aside0.mk (Kd.R_drew HO_386002.out)
      have n6_ := Aside0.mk (blk_drew BK351.out)
      have n7_ := Aside0.mk (blk_drew BK368.out)
      have n8_ := Aside0.mk (blk_drew BK376.out)
      have n9_ := Aside0.mk (blk_drew BK385.out)
      have n10_ := Aside0.mk (below_drew1 HB.out)
      clear HO_369001
      clear HO_369002
      clear HO_377001
      clear HO_377002
      clear HO_386001
      clear HO_386002
      clear BK351
      clear BK368
      clear BK376
      clear BK385
      clear HB
      have HO_369001 := n0_
      have HO_369002 := n1_
      have HO_377001 := n2_
      have HO_377002 := n3_
      have HO_386001 := n4_
      have HO_386002 := n5_
      have BK351 := n6_
      have BK368 := n7_
      have BK376 := n8_
      have BK385 := n9_
      have HB := n10_
      clear n0_ n1_ n2_ n3_ n4_ n5_ n6_ n7_ n8_ n9_ n10_
      refine start_ (n := 5) (S := fun w' => w'.cell? ⟨gb376, 0, none⟩ = some (.int .i64 t369) ∧ w'.cell? ⟨gb376, 1, none⟩ = some (.slice Ao32 t370.length co32) ∧ w'.cell? ⟨gb376, 2, none⟩ = some (.slice Ao33 t373.length co33) ∧ w'.cell? ⟨gb351, 0, none⟩ = some (.int .i64 a0_0) ∧ w'.cell? ⟨gb351, 1, none⟩ = some (.slice A0_1 l0_1.length c0_1) ∧ w'.cell? ⟨gb351, 2, none⟩ = some (.slice A0_2 l0_2.length c0_2)) (ds := []) #[false, false, false, false, false] (by kernel_rfl) rfl rfl ⟨(blk_cell BK376.out 0).trans rfl, (blk_cell BK376.out 1).trans rfl, (blk_cell BK376.out 2).trans rfl, (blk_cell BK351.out 0).trans rfl, (blk_cell BK351.out 1).trans rfl, (blk_cell BK351.out 2).trans rfl⟩ (fun hHeld => ?_)
      generalize wc.drew = w66 at HO_369001 HO_369002 HO_377001 HO_377002 HO_386001 HO_386002 BK351 BK368 BK376 BK385 HB hHeld ⊢
      refine Zt6 0 (some 45) hHeld (h := ?_)
      refine Zt6 1 (some 46) hHeld (h := ?_)
      refine one_ (i := 2) (N := some 47) #[true, true, true, false, false] rfl rfl (by kernel_rfl) (by decide) (fun K hK => ?_)
      refine goes_ Try.func16 (by kernel_rfl) rfl #[.agg #[.int .i64 a0_0, .slice A0_1 l0_1.length c0_1, .slice A0_2 l0_2.length c0_2]] (by rfl) rfl rfl ZA ?_
      with_reducible refine (laws_toJacobi.calls kj11 a0_0 _ _ l0_1 _ _ l0_2 t387 t388 t391 _ ?side1 ?side2 ?side3 ?side4 A61.out).mono ?_
      (case side1 => exact ZC HR0_1)
      (case side2 => exact HC0_1.out)
      (case side3 => exact ZC HR0_2)
      (case side4 => exact HC0_2.out)
      rintro e w67 ⟨v389, v392, rfl, ho0, ho1, hb⟩
      refine ⟨_, rfl, ?_⟩
      have n0_ := Aside0.mk (Kd.R_mono (Kd.R_told (Kd.R_told (Kd.R_old (ZR HO_369001) hb) (Kd.R_base ho0)) (Kd.R_base ho1)) (fun _ h_ => h_.1))
      have n1_ := Aside0.mk (Kd.R_mono (Kd.R_told (Kd.R_told (Kd.R_old (ZR HO_369002) hb) (Kd.R_base ho0)) (Kd.R_base ho1)) (fun _ h_ => h_.1))
      have n2_ := Aside0.mk (Kd.R_mono (Kd.R_told (Kd.R_told (Kd.R_old (ZR HO_377001) hb) (Kd.R_base ho0)) (Kd.R_base ho1)) (fun _ h_ => h_.1))
      have n3_ := Aside0.mk (Kd.R_mono (Kd.R_told (Kd.R_told (Kd.R_old (ZR HO_377002) hb) (Kd.R_base ho0)) (Kd.R_base ho1)) (fun _ h_ => h_.1))
      have n4_ := Aside0.mk (Kd.R_mono (Kd.R_told (Kd.R_told (Kd.R_old (ZR HO_386001) hb) (Kd.R_base ho0)) (Kd.R_base ho1)) (fun _ h_ => h_.1))
      have n5_ := Aside0.mk (Kd.R_mono (Kd.R_told (Kd.R_told (Kd.R_old (ZR HO_386002) hb) (Kd.R_base ho0)) (Kd.R_base ho1)) (fun _ h_ => h_.1))
      have n6_ := Aside0.mk (Kd.R_lower (Kd.R_new' (Kd.R_new' (Kd.R_new' (Kd.R_new' (Kd.R_new' (Kd.R_new' ho0 (Kd.R_lt (ZR HO_369001))) (Kd.R_lt (ZR HO_369002))) (Kd.R_lt (ZR HO_377001))) (Kd.R_lt (ZR HO_377002))) (Kd.R_lt (ZR HO_386001))) (Kd.R_lt (ZR HO_386002))) (below_size ZB))
      have n7_ := Aside0.mk (Kd.R_lower (Kd.R_new' (Kd.R_new' (Kd.R_new' (Kd.R_new' (Kd.R_new' (Kd.R_new' ho1 (Kd.R_lt (ZR HO_369001))) (Kd.R_lt (ZR HO_369002))) (Kd.R_lt (ZR HO_377001))) (Kd.R_lt (ZR HO_377002))) (Kd.R_lt (ZR HO_386001))) (Kd.R_lt (ZR HO_386002))) (below_size ZB))
      have n8_ := ZL BK351 hb
      have n9_ := ZL BK368 hb
      have n10_ := ZL BK376 hb
      have n11_ := ZL BK385 hb
      have n12_ := Aside0.mk (below_step ZB hb)
      clear HO_369001
      clear HO_369002
      clear HO_377001
      clear HO_377002
      clear HO_386001
      clear HO_386002
      clear BK351
      clear BK368
      clear BK376
      clear BK385
      clear HB
      have HO_369001 := n0_
      have HO_369002 := n1_
      have HO_377001 := n2_
      have HO_377002 := n3_
      have HO_386001 := n4_
      have HO_386002 := n5_
      have HO390 := n6_
      have HO393 := n7_
      have BK351 := n8_
      have BK368 := n9_
      have BK376 := n10_
      have BK385 := n11_
      have HB := n12_
      clear n0_ n1_ n2_ n3_ n4_ n5_ n6_ n7_ n8_ n9_ n10_ n11_ n12_
      (try clear hb)
      (try clear hb2)
      (try clear hk)
      (try clear hi)
      (try clear ho0)
      (try clear ho1)
      obtain ⟨Ao68, co68, eo68⟩ := Kd.R_slice HO390.out
      (first | subst eo68 | (injection eo68 with f1_ f2_ f3_; have f4_ := f1_.symm; have f5_ := f3_.symm; clear f1_ f2_ f3_; subst f4_; subst f5_))
      obtain ⟨Ao69, co69, eo69⟩ := Kd.R_slice HO393.out
      (first | subst eo69 | (injection eo69 with f1_ f2_ f3_; have f4_ := f1_.symm; have f5_ := f3_.symm; clear f1_ f2_ f3_; subst f4_; subst f5_))
      refine hK.out _ _ ⟨(blk_cell BK376.out 0).trans rfl, (blk_cell BK376.out 1).trans rfl, (blk_cell BK376.out 2).trans rfl, (blk_cell BK351.out 0).trans rfl, (blk_cell BK351.out 1).trans rfl, (blk_cell BK351.out 2).trans rfl⟩ (fun hHeld => ?_)
      clear hK K
      refine norm_ (a' := ?_) ?_ ?_
      rotate_left
      ·show Act.put _ (some 47) _ = _
       simp only [Act.put, List.setIfInBounds_toArray, List.set_cons_zero, List.set_cons_succ, i64_w, i32_w]
       rfl
      refine one_ (i := 3) (N := some 48) #[true, true, true, true, false] rfl rfl (by kernel_rfl) (by decide) (fun K hK => ?_)
      refine goes_ Try.func19 (by kernel_rfl) rfl #[.agg #[.int .i64 t369, .slice Ao32 t370.length co32, .slice Ao33 t373.length co33], .agg #[.int .i64 t387, .slice Ao68 t388.length co68, .slice Ao69 t391.length co69]] (by rfl) rfl rfl ZA ?_
      with_reducible refine (laws_eqJacobi.calls kj11 t369 _ _ t370 _ _ t373 t387 _ _ t388 _ _ t391 true _ ?side1 ?side2 ?side3 ?side4 ?side5 ?side6 ?side7 ?side8 A62.out).mono ?_
      (case side1 => repeat (first | exact (Kd.R_reads' HO_377001.out).2.2 | (with_reducible refine Kd.C_alloc ?_ _) | (with_reducible refine Kd.C_drewN ?_ _) | (with_reducible refine Kd.C_drew ?_)))
      (case side2 => exact (Kd.R_reads' HO_377001.out).2.1)
      (case side3 => repeat (first | exact (Kd.R_reads' HO_377002.out).2.2 | (with_reducible refine Kd.C_alloc ?_ _) | (with_reducible refine Kd.C_drewN ?_ _) | (with_reducible refine Kd.C_drew ?_)))
      (case side4 => exact (Kd.R_reads' HO_377002.out).2.1)
      (case side5 => repeat (first | exact (Kd.R_reads' HO390.out).2.2 | (with_reducible refine Kd.C_alloc ?_ _) | (with_reducible refine Kd.C_drewN ?_ _) | (with_reducible refine Kd.C_drew ?_)))
      (case side6 => exact (Kd.R_reads' HO390.out).2.1)
      (case side7 => repeat (first | exact (Kd.R_reads' HO393.out).2.2 | (with_reducible refine Kd.C_alloc ?_ _) | (with_reducible refine Kd.C_drewN ?_ _) | (with_reducible refine Kd.C_drew ?_)))
      (case side8 => exact (Kd.R_reads' HO393.out).2.1)
      rintro e w70 ⟨rfl, hb⟩
      refine ⟨_, rfl, ?_⟩
      have n0_ := Aside0.mk (Kd.R_below (ZR HO_369001) hb)
      have n1_ := Aside0.mk (Kd.R_below (ZR HO_369002) hb)
      have n2_ := Aside0.mk (Kd.R_below (ZR HO_377001) hb)
      have n3_ := Aside0.mk (Kd.R_below (ZR HO_377002) hb)
      have n4_ := Aside0.mk (Kd.R_below (ZR HO_386001) hb)
      have n5_ := Aside0.mk (Kd.R_below (ZR HO_386002) hb)
      have n6_ := Aside0.mk (Kd.R_below (ZR HO390) hb)
      have n7_ := Aside0.mk (Kd.R_below (ZR HO393) hb)
      have n8_ := ZL BK351 hb
      have n9_ := ZL BK368 hb
      have n10_ := ZL BK376 hb
      have n11_ := ZL BK385 hb
      have n12_ := Aside0.mk (below_step ZB hb)
      clear HO_369001
      clear HO_369002
      clear HO_377001
      clear HO_377002
      clear HO_386001
      clear HO_386002
      clear HO390
      clear HO393
      clear BK351
      clear BK368
      clear BK376
      clear BK385
      clear HB
      have HO_369001 := n0_
      have HO_369002 := n1_
      have HO_377001 := n2_
      have HO_377002 := n3_
      have HO_386001 := n4_
      have HO_386002 := n5_
      have HO390 := n6_
      have HO393 := n7_
      have BK351 := n8_
      have BK368 := n9_
      have BK376 := n10_
      have BK385 := n11_
      have HB := n12_
      clear n0_ n1_ n2_ n3_ n4_ n5_ n6_ n7_ n8_ n9_ n10_ n11_ n12_
      (try clear hb)
      (try clear hb2)
      (try clear hk)
      (try clear hi)
      refine hK.out _ _ ⟨(blk_cell BK376.out 0).trans rfl, (blk_cell BK376.out 1).trans rfl, (blk_cell BK376.out 2).trans rfl, (blk_cell BK351.out 0).trans rfl, (blk_cell BK351.out 1).trans rfl, (blk_cell BK351.out 2).trans rfl⟩ (fun hHeld => ?_)
      clear hK K
      refine norm_ (a' := ?_) ?_ ?_
      rotate_left
      ·show Act.put _ (some 48) _ = _
       simp only [Act.put, List.setIfInBounds_toArray, List.set_cons_zero, List.set_cons_succ, i64_w, i32_w]
       rfl
      refine Zp 4 (some 49) (h := ?_)
      refine done_ (by kernel_rfl) ?_
      have hnb71 := NB376_351.out
      have hnc71 := NB351_376.out
      have hnb72 := NB376_368.out
      have hnc72 := NB368_376.out
      have hnb73 := NB376_385.out
      have hnc73 := NB385_376.out
      obtain ⟨hcz74_0, hcz74_1, hcz74_2, hfz74_0, hfz74_1, hfz74_2⟩ := ZD3 BK376
      go_upto_region 14 with (first | ((with_reducible refine gate_callee (f := 20) rfl ?_); refine goesL_ (some 52) rfl rfl Try.func20 (by kernel_rfl) rfl #[.agg #[.int .i64 t369, .slice Ao32 t370.length co32, .slice Ao33 t373.length co33], .int .i64 1] rfl ZA ?_; (with_reducible refine (laws_markJacobi.calls kj11 t369 (fun k_ => some k_ = (.slice Ao32 t370.length co32 : Value).ownBlock) (.slice Ao32 t370.length co32) t370 (fun k_ => some k_ = (.slice Ao33 t373.length co33 : Value).ownBlock) (.slice Ao33 t373.length co33) t373 1 t395 t396 t397 w _ ?side1 ?side2 ?side3 ?side4 ?side5 A64.out).mono ?_); (case side1 => repeat (first | (with_reducible first | exact HB.out | apply below_alloc | apply pw_below_drewN | apply below_drew1 | refine below_set ?_ GE351.out | refine below_set ?_ GE368.out | refine below_set ?_ GE376.out | refine below_set ?_ GE385.out) | exact HB.out)); (case side2 => exact Kd.R_tight rfl HO_377001.out); (case side3 => exact fun k_ e_ => (HO_377001.out.1 k_ e_.symm).1.1.2.2.1); (case side4 => exact Kd.R_tight rfl HO_377002.out); (case side5 => exact fun k_ e_ => (HO_377002.out.1 k_ e_.symm).1.1.2.2.1); rintro e w75 ⟨rfl, hy0, hy1, hb, hkp⟩; refine ⟨_, rfl, ?_⟩; have n0_ := Aside0.mk (Kd.R_mono (ok' := fun k_ => some k_ ≠ (.slice Ao25 t364.length co25 : Value).ownBlock ∧ some k_ ≠ (.slice Ao32 t370.length co32 : Value).ownBlock ∧ some k_ ≠ (.slice Ao33 t373.length co33 : Value).ownBlock ∧ some k_ ≠ (.slice Ao40 t378.length co40 : Value).ownBlock ∧ some k_ ≠ (.slice Ao41 t381.length co41 : Value).ownBlock ∧ some k_ ≠ (.slice Ao68 t388.length co68 : Value).ownBlock ∧ some k_ ≠ (.slice Ao69 t391.length co69 : Value).ownBlock) (Kd.R_keptB (HO_369001.out) hkp (fun k_ hk_ hs_ => Or.elim hs_ (fun e_ => (hk_.1.1.2.1) e_) (fun e_ => (hk_.1.1.2.2.1) e_))) (fun k_ hk_ => ⟨hk_.1.1.1.1, hk_.1.1.1.2.1, hk_.1.1.1.2.2.1, hk_.1.1.1.2.2.2.1, hk_.1.1.1.2.2.2.2, hk_.1.1.2, hk_.1.2⟩)); have n1_ := Aside0.mk (Kd.R_mono (ok' := fun k_ => some k_ ≠ (.slice Ao24 t361.length co24 : Value).ownBlock ∧ some k_ ≠ (.slice Ao32 t370.length co32 : Value).ownBlock ∧ some k_ ≠ (.slice Ao33 t373.length co33 : Value).ownBlock ∧ some k_ ≠ (.slice Ao40 t378.length co40 : Value).ownBlock ∧ some k_ ≠ (.slice Ao41 t381.length co41 : Value).ownBlock ∧ some k_ ≠ (.slice Ao68 t388.length co68 : Value).ownBlock ∧ some k_ ≠ (.slice Ao69 t391.length co69 : Value).ownBlock) (Kd.R_keptB (HO_369002.out) hkp (fun k_ hk_ hs_ => Or.elim hs_ (fun e_ => (hk_.1.1.2.1) e_) (fun e_ => (hk_.1.1.2.2.1) e_))) (fun k_ hk_ => ⟨hk_.1.1.1.1, hk_.1.1.1.2.1, hk_.1.1.1.2.2.1, hk_.1.1.1.2.2.2.1, hk_.1.1.1.2.2.2.2, hk_.1.1.2, hk_.1.2⟩)); have n2_ := Aside0.mk (Kd.R_reok rfl hy0 (fun k_ e_ => HO_377001.out.1 k_ e_)); have n3_ := Aside0.mk (Kd.R_reok rfl hy1 (fun k_ e_ => HO_377002.out.1 k_ e_)); have n4_ := Aside0.mk (Kd.R_mono (ok' := fun k_ => some k_ ≠ (.slice Ao24 t361.length co24 : Value).ownBlock ∧ some k_ ≠ (.slice Ao25 t364.length co25 : Value).ownBlock ∧ some k_ ≠ (.slice Ao32 t370.length co32 : Value).ownBlock ∧ some k_ ≠ (.slice Ao33 t373.length co33 : Value).ownBlock ∧ some k_ ≠ (.slice Ao41 t381.length co41 : Value).ownBlock ∧ some k_ ≠ (.slice Ao68 t388.length co68 : Value).ownBlock ∧ some k_ ≠ (.slice Ao69 t391.length co69 : Value).ownBlock) (Kd.R_keptB (HO_386001.out) hkp (fun k_ hk_ hs_ => Or.elim hs_ (fun e_ => (hk_.1.1.2.2.1) e_) (fun e_ => (hk_.1.1.2.2.2.1) e_))) (fun k_ hk_ => ⟨hk_.1.1.1.1, hk_.1.1.1.2.1, hk_.1.1.1.2.2.1, hk_.1.1.1.2.2.2.1, hk_.1.1.1.2.2.2.2, hk_.1.1.2, hk_.1.2⟩)); have n5_ := Aside0.mk (Kd.R_mono (ok' := fun k_ => some k_ ≠ (.slice Ao24 t361.length co24 : Value).ownBlock ∧ some k_ ≠ (.slice Ao25 t364.length co25 : Value).ownBlock ∧ some k_ ≠ (.slice Ao32 t370.length co32 : Value).ownBlock ∧ some k_ ≠ (.slice Ao33 t373.length co33 : Value).ownBlock ∧ some k_ ≠ (.slice Ao40 t378.length co40 : Value).ownBlock ∧ some k_ ≠ (.slice Ao68 t388.length co68 : Value).ownBlock ∧ some k_ ≠ (.slice Ao69 t391.length co69 : Value).ownBlock) (Kd.R_keptB (HO_386002.out) hkp (fun k_ hk_ hs_ => Or.elim hs_ (fun e_ => (hk_.1.1.2.2.1) e_) (fun e_ => (hk_.1.1.2.2.2.1) e_))) (fun k_ hk_ => ⟨hk_.1.1.1.1, hk_.1.1.1.2.1, hk_.1.1.1.2.2.1, hk_.1.1.1.2.2.2.1, hk_.1.1.1.2.2.2.2, hk_.1.1.2, hk_.1.2⟩)); have n6_ := Aside0.mk (blk_kept (ZK BK351) hkp (fun hs_ => Or.elim hs_ (fun e_ => (fun e_ => (Kd.R_ne HO_377001.out BK351.out (by decide)) e_) e_) (fun e_ => (fun e_ => (Kd.R_ne HO_377002.out BK351.out (by decide)) e_) e_))); have n7_ := Aside0.mk (blk_kept (ZK BK368) hkp (fun hs_ => Or.elim hs_ (fun e_ => (fun e_ => (Kd.R_ne HO_377001.out BK368.out (by decide)) e_) e_) (fun e_ => (fun e_ => (Kd.R_ne HO_377002.out BK368.out (by decide)) e_) e_))); have n8_ := Aside0.mk (blk_kept (ZK BK376) hkp (fun hs_ => Or.elim hs_ (fun e_ => (fun e_ => (Kd.R_ne HO_377001.out BK376.out (by decide)) e_) e_) (fun e_ => (fun e_ => (Kd.R_ne HO_377002.out BK376.out (by decide)) e_) e_))); have n9_ := Aside0.mk (blk_kept (ZK BK385) hkp (fun hs_ => Or.elim hs_ (fun e_ => (fun e_ => (Kd.R_ne HO_377001.out BK385.out (by decide)) e_) e_) (fun e_ => (fun e_ => (Kd.R_ne HO_377002.out BK385.out (by decide)) e_) e_))); have n10_ := Aside0.mk (Kd.R_mono (ok' := fun k_ => some k_ ≠ (.slice Ao24 t361.length co24 : Value).ownBlock ∧ some k_ ≠ (.slice Ao25 t364.length co25 : Value).ownBlock ∧ some k_ ≠ (.slice Ao32 t370.length co32 : Value).ownBlock ∧ some k_ ≠ (.slice Ao33 t373.length co33 : Value).ownBlock ∧ some k_ ≠ (.slice Ao40 t378.length co40 : Value).ownBlock ∧ some k_ ≠ (.slice Ao41 t381.length co41 : Value).ownBlock ∧ some k_ ≠ (.slice Ao69 t391.length co69 : Value).ownBlock) (Kd.R_keptB (HO390.out) hkp (fun k_ hk_ hs_ => Or.elim hs_ (fun e_ => (hk_.1.1.1.2) e_) (fun e_ => (hk_.1.1.2) e_))) (fun k_ hk_ => ⟨hk_.1.1.1.1.1.1.2, hk_.1.1.1.1.1.2, hk_.1.1.1.1.2, hk_.1.1.1.2, hk_.1.1.2, hk_.1.2, hk_.1.1.1.1.1.1.1⟩)); have n11_ := Aside0.mk (Kd.R_mono (ok' := fun k_ => some k_ ≠ (.slice Ao24 t361.length co24 : Value).ownBlock ∧ some k_ ≠ (.slice Ao25 t364.length co25 : Value).ownBlock ∧ some k_ ≠ (.slice Ao32 t370.length co32 : Value).ownBlock ∧ some k_ ≠ (.slice Ao33 t373.length co33 : Value).ownBlock ∧ some k_ ≠ (.slice Ao40 t378.length co40 : Value).ownBlock ∧ some k_ ≠ (.slice Ao41 t381.length co41 : Value).ownBlock ∧ some k_ ≠ (.slice Ao68 t388.length co68 : Value).ownBlock) (Kd.R_keptB (HO393.out) hkp (fun k_ hk_ hs_ => Or.elim hs_ (fun e_ => (hk_.1.1.1.2) e_) (fun e_ => (hk_.1.1.2) e_))) (fun k_ hk_ => ⟨hk_.1.1.1.1.1.1.2, hk_.1.1.1.1.1.2, hk_.1.1.1.1.2, hk_.1.1.1.2, hk_.1.1.2, hk_.1.2, hk_.1.1.1.1.1.1.1⟩)); have n12_ := Aside0.mk (hb); clear HO_369001; clear HO_369002; clear HO_377001; clear HO_377002; clear HO_386001; clear HO_386002; clear BK351; clear BK368; clear BK376; clear BK385; clear HO390; clear HO393; clear HB; have HO_369001 := n0_; have HO_369002 := n1_; have HO_377001 := n2_; have HO_377002 := n3_; have HO_386001 := n4_; have HO_386002 := n5_; have BK351 := n6_; have BK368 := n7_; have BK376 := n8_; have BK385 := n9_; have HO390 := n10_; have HO393 := n11_; have HB := n12_; clear n0_ n1_ n2_ n3_ n4_ n5_ n6_ n7_ n8_ n9_ n10_ n11_ n12_; (try clear hb); (try clear hkp); (try clear hy0); (try clear hy1)))
      (try simp only [Act.put, List.setIfInBounds_toArray, List.set_cons_zero, List.set_cons_succ])
      go_cut [65] (fun v65 wc => ∃ (kq : Nat) (x65_64 : Bool), v65 = .bool x65_64 ∧ Aside0 (laws_FnExactStepOfJacobi.j1 kq a1 t367 x65_64 a0_0 l0_1 l0_2 t360 t361 t364 t377 t378 t381 = some r) ∧ Aside0 (kq ≤ kj11) ∧ Aside0 (Kd.R (Kd.int .i64) 2 wc w.heap.size (fun k_ => some k_ ≠ ((.slice Ao25 t364.length co25) : Value).ownBlock ∧ some k_ ≠ ((.slice Ao32 t370.length co32) : Value).ownBlock ∧ some k_ ≠ ((.slice Ao33 t373.length co33) : Value).ownBlock ∧ some k_ ≠ ((.slice Ao40 t378.length co40) : Value).ownBlock ∧ some k_ ≠ ((.slice Ao41 t381.length co41) : Value).ownBlock) (.slice Ao24 t361.length co24) t361) ∧ Aside0 (Kd.R (Kd.int .i64) 2 wc w.heap.size (fun k_ => some k_ ≠ ((.slice Ao24 t361.length co24) : Value).ownBlock ∧ some k_ ≠ ((.slice Ao32 t370.length co32) : Value).ownBlock ∧ some k_ ≠ ((.slice Ao33 t373.length co33) : Value).ownBlock ∧ some k_ ≠ ((.slice Ao40 t378.length co40) : Value).ownBlock ∧ some k_ ≠ ((.slice Ao41 t381.length co41) : Value).ownBlock) (.slice Ao25 t364.length co25) t364) ∧ Aside0 (Kd.R (Kd.int .i64) 2 wc w.heap.size (fun k_ => some k_ ≠ ((.slice Ao24 t361.length co24) : Value).ownBlock ∧ some k_ ≠ ((.slice Ao25 t364.length co25) : Value).ownBlock ∧ some k_ ≠ ((.slice Ao33 t373.length co33) : Value).ownBlock ∧ some k_ ≠ ((.slice Ao40 t378.length co40) : Value).ownBlock ∧ some k_ ≠ ((.slice Ao41 t381.length co41) : Value).ownBlock) (.slice Ao32 t370.length co32) t396) ∧ Aside0 (Kd.R (Kd.int .i64) 2 wc w.heap.size (fun k_ => some k_ ≠ ((.slice Ao24 t361.length co24) : Value).ownBlock ∧ some k_ ≠ ((.slice Ao25 t364.length co25) : Value).ownBlock ∧ some k_ ≠ ((.slice Ao32 t370.length co32) : Value).ownBlock ∧ some k_ ≠ ((.slice Ao40 t378.length co40) : Value).ownBlock ∧ some k_ ≠ ((.slice Ao41 t381.length co41) : Value).ownBlock) (.slice Ao33 t373.length co33) t397) ∧ Aside0 (Kd.R (Kd.int .i64) 2 wc w.heap.size (fun k_ => some k_ ≠ ((.slice Ao24 t361.length co24) : Value).ownBlock ∧ some k_ ≠ ((.slice Ao25 t364.length co25) : Value).ownBlock ∧ some k_ ≠ ((.slice Ao32 t370.length co32) : Value).ownBlock ∧ some k_ ≠ ((.slice Ao33 t373.length co33) : Value).ownBlock ∧ some k_ ≠ ((.slice Ao41 t381.length co41) : Value).ownBlock) (.slice Ao40 t378.length co40) t378) ∧ Aside0 (Kd.R (Kd.int .i64) 2 wc w.heap.size (fun k_ => some k_ ≠ ((.slice Ao24 t361.length co24) : Value).ownBlock ∧ some k_ ≠ ((.slice Ao25 t364.length co25) : Value).ownBlock ∧ some k_ ≠ ((.slice Ao32 t370.length co32) : Value).ownBlock ∧ some k_ ≠ ((.slice Ao33 t373.length co33) : Value).ownBlock ∧ some k_ ≠ ((.slice Ao40 t378.length co40) : Value).ownBlock) (.slice Ao41 t381.length co41) t381) ∧ Aside0 (wc.heap[gb351]? = some (.cells #[.int .i64 a0_0, (.slice A0_1 l0_1.length c0_1), (.slice A0_2 l0_2.length c0_2)] 24 (0, 0))) ∧ Aside0 (wc.heap[gb368]? = some (.cells #[.int .i64 t360, (.slice Ao24 t361.length co24), (.slice Ao25 t364.length co25)] 29 (0, 0))) ∧ Aside0 (wc.heap[gb376]? = some (.cells #[.int .i64 t369, (.slice Ao32 t370.length co32), (.slice Ao33 t373.length co33)] 29 (0, 0))) ∧ Aside0 (wc.heap[gb385]? = some (.cells #[.int .i64 t377, (.slice Ao40 t378.length co40), (.slice Ao41 t381.length co41)] 29 (0, 0))) ∧ Aside0 (Below w.heap.size w wc))
      case first =>
       have H := HC65.out
       clear HC65
       by_cases c76 : t395 < 0
       ·rw [if_pos c76] at H
        have c76b0 : decide (t395 < 0) = true := decide_eq_true c76
        clear c76
        (first | rw [c76b0] | (simp only [i64_w, i32_w]; rw [c76b0]) | skip)
        have H' := Aside0.mk H
        clear H
        go_wp2
        go_meet
        case rel => exact ⟨_, (true), (by first | rfl | (simp; done) | (simp [*]; done)), H', ⟨by have := HJ11.out; first | omega | exact Nat.le_refl _⟩, ⟨by refine ZQ ?_; exact Kd.R_mono HO_369001.out (fun _ hk => (And.intro (hk.1) ((And.intro (hk.2.1) ((And.intro (hk.2.2.1) ((And.intro (hk.2.2.2.1) (hk.2.2.2.2.1)))))))))⟩, ⟨by refine ZQ ?_; exact Kd.R_mono HO_369002.out (fun _ hk => (And.intro (hk.1) ((And.intro (hk.2.1) ((And.intro (hk.2.2.1) ((And.intro (hk.2.2.2.1) (hk.2.2.2.2.1)))))))))⟩, ⟨by refine ZQ ?_; exact Kd.R_mono HO_377001.out (fun _ hk => (And.intro (hk.1.1.1) ((And.intro (hk.1.1.2.1) ((And.intro (hk.1.1.2.2.1) ((And.intro (hk.1.1.2.2.2.1) (hk.1.1.2.2.2.2)))))))))⟩, ⟨by refine ZQ ?_; exact Kd.R_mono HO_377002.out (fun _ hk => (And.intro (hk.1.1.1) ((And.intro (hk.1.1.2.1) ((And.intro (hk.1.1.2.2.1) ((And.intro (hk.1.1.2.2.2.1) (hk.1.1.2.2.2.2)))))))))⟩, ⟨by refine ZQ ?_; exact Kd.R_mono HO_386001.out (fun _ hk => (And.intro (hk.1) ((And.intro (hk.2.1) ((And.intro (hk.2.2.1) ((And.intro (hk.2.2.2.1) (hk.2.2.2.2.1)))))))))⟩, ⟨by refine ZQ ?_; exact Kd.R_mono HO_386002.out (fun _ hk => (And.intro (hk.1) ((And.intro (hk.2.1) ((And.intro (hk.2.2.1) ((And.intro (hk.2.2.2.1) (hk.2.2.2.2.1)))))))))⟩, ⟨ZK BK351⟩, ⟨ZK BK368⟩, ⟨ZK BK376⟩, ⟨ZK BK385⟩, ⟨ZB⟩⟩
       ·rw [if_neg c76] at H
        have c76b0 : decide (t395 < 0) = false := decide_eq_false c76
        clear c76
        (first | rw [c76b0] | (simp only [i64_w, i32_w]; rw [c76b0]) | skip)
        replace H := Option.bind_eq_some_iff.mp H
        obtain ⟨t398, A770, H⟩ := H
        replace H : (if t398 = true then (laws_FnExactStepOfJacobi.j1 kj11 a1 t367 (t384 != t367) a0_0 l0_1 l0_2 t360 t361 t364 t377 t378 t381) else (laws_FnExactStepOfJacobi.j1 kj11 a1 t367 true a0_0 l0_1 l0_2 t360 t361 t364 t377 t378 t381)) = some r := H
        have A77 := Aside0.mk A770
        clear A770
        by_cases c78 : t398 = true
        ·subst c78
         have H1 : (laws_FnExactStepOfJacobi.j1 kj11 a1 t367 (t384 != t367) a0_0 l0_1 l0_2 t360 t361 t364 t377 t378 t381) = some r := by rw [if_pos rfl] at H; exact H
         clear H
         have H := H1
         clear H1
         have H' := Aside0.mk H
         clear H
         have hnb79 := NB385_351.out
         have hnc79 := NB351_385.out
         have hnb80 := NB385_368.out
         have hnc80 := NB368_385.out
         have hnb81 := NB385_376.out
         have hnc81 := NB376_385.out
         obtain ⟨hcz82_0, hcz82_1, hcz82_2, hfz82_0, hfz82_1, hfz82_2⟩ := ZD3 BK385
         have hnb83 := NB368_351.out
         have hnc83 := NB351_368.out
         have hnb84 := NB368_376.out
         have hnc84 := NB376_368.out
         obtain ⟨hcz85_0, hcz85_1, hcz85_2, hfz85_0, hfz85_1, hfz85_2⟩ := ZD3 BK368
         go_wp2_with (first | (go_at_call 19; (with_reducible refine (laws_eqJacobi.calls kj11 t377 _ _ t378 _ _ t381 t360 _ _ t361 _ _ t364 true _ ?side1 ?side2 ?side3 ?side4 ?side5 ?side6 ?side7 ?side8 A77.out).mono ?_); (case side1 => repeat (first | exact (Kd.R_reads' HO_386001.out).2.2 | (with_reducible refine Kd.C_alloc ?_ _) | (with_reducible refine Kd.C_drewN ?_ _) | (with_reducible refine Kd.C_drew ?_))); (case side2 => exact (Kd.R_reads' HO_386001.out).2.1); (case side3 => repeat (first | exact (Kd.R_reads' HO_386002.out).2.2 | (with_reducible refine Kd.C_alloc ?_ _) | (with_reducible refine Kd.C_drewN ?_ _) | (with_reducible refine Kd.C_drew ?_))); (case side4 => exact (Kd.R_reads' HO_386002.out).2.1); (case side5 => repeat (first | exact (Kd.R_reads' HO_369001.out).2.2 | (with_reducible refine Kd.C_alloc ?_ _) | (with_reducible refine Kd.C_drewN ?_ _) | (with_reducible refine Kd.C_drew ?_))); (case side6 => exact (Kd.R_reads' HO_369001.out).2.1); (case side7 => repeat (first | exact (Kd.R_reads' HO_369002.out).2.2 | (with_reducible refine Kd.C_alloc ?_ _) | (with_reducible refine Kd.C_drewN ?_ _) | (with_reducible refine Kd.C_drew ?_))); (case side8 => exact (Kd.R_reads' HO_369002.out).2.1); rintro e w86 ⟨rfl, hb⟩; have n0_ := Aside0.mk (Kd.R_below (ZR HO_369001) hb); have n1_ := Aside0.mk (Kd.R_below (ZR HO_369002) hb); have n2_ := Aside0.mk (Kd.R_below (ZR HO_377001) hb); have n3_ := Aside0.mk (Kd.R_below (ZR HO_377002) hb); have n4_ := Aside0.mk (Kd.R_below (ZR HO_386001) hb); have n5_ := Aside0.mk (Kd.R_below (ZR HO_386002) hb); have n6_ := Aside0.mk (Kd.R_below (ZR HO390) hb); have n7_ := Aside0.mk (Kd.R_below (ZR HO393) hb); have n8_ := ZL BK351 hb; have n9_ := ZL BK368 hb; have n10_ := ZL BK376 hb; have n11_ := ZL BK385 hb; have n12_ := Aside0.mk (below_step ZB hb); clear HO_369001; clear HO_369002; clear HO_377001; clear HO_377002; clear HO_386001; clear HO_386002; clear HO390; clear HO393; clear BK351; clear BK368; clear BK376; clear BK385; clear HB; have HO_369001 := n0_; have HO_369002 := n1_; have HO_377001 := n2_; have HO_377002 := n3_; have HO_386001 := n4_; have HO_386002 := n5_; have HO390 := n6_; have HO393 := n7_; have BK351 := n8_; have BK368 := n9_; have BK376 := n10_; have BK385 := n11_; have HB := n12_; clear n0_ n1_ n2_ n3_ n4_ n5_ n6_ n7_ n8_ n9_ n10_ n11_ n12_; (try clear hb); (try clear hb2); (try clear hk); (try clear hi)))
         go_meet
         case rel => exact ⟨_, ((t384 != t367)), (by first | rfl | (simp; done) | (simp [*]; done)), H', ⟨by have := HJ11.out; first | omega | exact Nat.le_refl _⟩, ⟨by refine ZQ ?_; exact Kd.R_mono HO_369001.out (fun _ hk => (And.intro (hk.1) ((And.intro (hk.2.1) ((And.intro (hk.2.2.1) ((And.intro (hk.2.2.2.1) (hk.2.2.2.2.1)))))))))⟩, ⟨by refine ZQ ?_; exact Kd.R_mono HO_369002.out (fun _ hk => (And.intro (hk.1) ((And.intro (hk.2.1) ((And.intro (hk.2.2.1) ((And.intro (hk.2.2.2.1) (hk.2.2.2.2.1)))))))))⟩, ⟨by refine ZQ ?_; exact Kd.R_mono HO_377001.out (fun _ hk => (And.intro (hk.1.1.1) ((And.intro (hk.1.1.2.1) ((And.intro (hk.1.1.2.2.1) ((And.intro (hk.1.1.2.2.2.1) (hk.1.1.2.2.2.2)))))))))⟩, ⟨by refine ZQ ?_; exact Kd.R_mono HO_377002.out (fun _ hk => (And.intro (hk.1.1.1) ((And.intro (hk.1.1.2.1) ((And.intro (hk.1.1.2.2.1) ((And.intro (hk.1.1.2.2.2.1) (hk.1.1.2.2.2.2)))))))))⟩, ⟨by refine ZQ ?_; exact Kd.R_mono HO_386001.out (fun _ hk => (And.intro (hk.1) ((And.intro (hk.2.1) ((And.intro (hk.2.2.1) ((And.intro (hk.2.2.2.1) (hk.2.2.2.2.1)))))))))⟩, ⟨by refine ZQ ?_; exact Kd.R_mono HO_386002.out (fun _ hk => (And.intro (hk.1) ((And.intro (hk.2.1) ((And.intro (hk.2.2.1) ((And.intro (hk.2.2.2.1) (hk.2.2.2.2.1)))))))))⟩, ⟨ZK BK351⟩, ⟨ZK BK368⟩, ⟨ZK BK376⟩, ⟨ZK BK385⟩, ⟨ZB⟩⟩
        ·replace c78 := Bool.eq_false_iff.mpr c78
         subst c78
         have H1 : (laws_FnExactStepOfJacobi.j1 kj11 a1 t367 true a0_0 l0_1 l0_2 t360 t361 t364 t377 t378 t381) = some r := by rw [if_neg (show ¬ (false = true) by decide)] at H; exact H
         clear H
         have H := H1
         clear H1
         have H' := Aside0.mk H
         clear H
         have hnb87 := NB385_351.out
         have hnc87 := NB351_385.out
         have hnb88 := NB385_368.out
         have hnc88 := NB368_385.out
         have hnb89 := NB385_376.out
         have hnc89 := NB376_385.out
         obtain ⟨hcz90_0, hcz90_1, hcz90_2, hfz90_0, hfz90_1, hfz90_2⟩ := ZD3 BK385
         have hnb91 := NB368_351.out
         have hnc91 := NB351_368.out
         have hnb92 := NB368_376.out
         have hnc92 := NB376_368.out
         obtain ⟨hcz93_0, hcz93_1, hcz93_2, hfz93_0, hfz93_1, hfz93_2⟩ := ZD3 BK368
         go_wp2_with (first | (go_at_call 19; (with_reducible refine (laws_eqJacobi.calls kj11 t377 _ _ t378 _ _ t381 t360 _ _ t361 _ _ t364 false _ ?side1 ?side2 ?side3 ?side4 ?side5 ?side6 ?side7 ?side8 A77.out).mono ?_); (case side1 => repeat (first | exact (Kd.R_reads' HO_386001.out).2.2 | (with_reducible refine Kd.C_alloc ?_ _) | (with_reducible refine Kd.C_drewN ?_ _) | (with_reducible refine Kd.C_drew ?_))); (case side2 => exact (Kd.R_reads' HO_386001.out).2.1); (case side3 => repeat (first | exact (Kd.R_reads' HO_386002.out).2.2 | (with_reducible refine Kd.C_alloc ?_ _) | (with_reducible refine Kd.C_drewN ?_ _) | (with_reducible refine Kd.C_drew ?_))); (case side4 => exact (Kd.R_reads' HO_386002.out).2.1); (case side5 => repeat (first | exact (Kd.R_reads' HO_369001.out).2.2 | (with_reducible refine Kd.C_alloc ?_ _) | (with_reducible refine Kd.C_drewN ?_ _) | (with_reducible refine Kd.C_drew ?_))); (case side6 => exact (Kd.R_reads' HO_369001.out).2.1); (case side7 => repeat (first | exact (Kd.R_reads' HO_369002.out).2.2 | (with_reducible refine Kd.C_alloc ?_ _) | (with_reducible refine Kd.C_drewN ?_ _) | (with_reducible refine Kd.C_drew ?_))); (case side8 => exact (Kd.R_reads' HO_369002.out).2.1); rintro e w94 ⟨rfl, hb⟩; have n0_ := Aside0.mk (Kd.R_below (ZR HO_369001) hb); have n1_ := Aside0.mk (Kd.R_below (ZR HO_369002) hb); have n2_ := Aside0.mk (Kd.R_below (ZR HO_377001) hb); have n3_ := Aside0.mk (Kd.R_below (ZR HO_377002) hb); have n4_ := Aside0.mk (Kd.R_below (ZR HO_386001) hb); have n5_ := Aside0.mk (Kd.R_below (ZR HO_386002) hb); have n6_ := Aside0.mk (Kd.R_below (ZR HO390) hb); have n7_ := Aside0.mk (Kd.R_below (ZR HO393) hb); have n8_ := ZL BK351 hb; have n9_ := ZL BK368 hb; have n10_ := ZL BK376 hb; have n11_ := ZL BK385 hb; have n12_ := Aside0.mk (below_step ZB hb); clear HO_369001; clear HO_369002; clear HO_377001; clear HO_377002; clear HO_386001; clear HO_386002; clear HO390; clear HO393; clear BK351; clear BK368; clear BK376; clear BK385; clear HB; have HO_369001 := n0_; have HO_369002 := n1_; have HO_377001 := n2_; have HO_377002 := n3_; have HO_386001 := n4_; have HO_386002 := n5_; have HO390 := n6_; have HO393 := n7_; have BK351 := n8_; have BK368 := n9_; have BK376 := n10_; have BK385 := n11_; have HB := n12_; clear n0_ n1_ n2_ n3_ n4_ n5_ n6_ n7_ n8_ n9_ n10_ n11_ n12_; (try clear hb); (try clear hb2); (try clear hk); (try clear hi)))
         go_meet
         case rel => exact ⟨_, (true), (by first | rfl | (simp; done) | (simp [*]; done)), H', ⟨by have := HJ11.out; first | omega | exact Nat.le_refl _⟩, ⟨by refine ZQ ?_; exact Kd.R_mono HO_369001.out (fun _ hk => (And.intro (hk.1) ((And.intro (hk.2.1) ((And.intro (hk.2.2.1) ((And.intro (hk.2.2.2.1) (hk.2.2.2.2.1)))))))))⟩, ⟨by refine ZQ ?_; exact Kd.R_mono HO_369002.out (fun _ hk => (And.intro (hk.1) ((And.intro (hk.2.1) ((And.intro (hk.2.2.1) ((And.intro (hk.2.2.2.1) (hk.2.2.2.2.1)))))))))⟩, ⟨by refine ZQ ?_; exact Kd.R_mono HO_377001.out (fun _ hk => (And.intro (hk.1.1.1) ((And.intro (hk.1.1.2.1) ((And.intro (hk.1.1.2.2.1) ((And.intro (hk.1.1.2.2.2.1) (hk.1.1.2.2.2.2)))))))))⟩, ⟨by refine ZQ ?_; exact Kd.R_mono HO_377002.out (fun _ hk => (And.intro (hk.1.1.1) ((And.intro (hk.1.1.2.1) ((And.intro (hk.1.1.2.2.1) ((And.intro (hk.1.1.2.2.2.1) (hk.1.1.2.2.2.2)))))))))⟩, ⟨by refine ZQ ?_; exact Kd.R_mono HO_386001.out (fun _ hk => (And.intro (hk.1) ((And.intro (hk.2.1) ((And.intro (hk.2.2.1) ((And.intro (hk.2.2.2.1) (hk.2.2.2.2.1)))))))))⟩, ⟨by refine ZQ ?_; exact Kd.R_mono HO_386002.out (fun _ hk => (And.intro (hk.1) ((And.intro (hk.2.1) ((And.intro (hk.2.2.1) ((And.intro (hk.2.2.2.1) (hk.2.2.2.2.1)))))))))⟩, ⟨ZK BK351⟩, ⟨ZK BK368⟩, ⟨ZK BK376⟩, ⟨ZK BK385⟩, ⟨ZB⟩⟩
      case rest =>
       clear HC65
       try clear c1
       try clear c2
       try clear p2
       try clear c3
       try clear c4
       try clear c4b0
       try clear c5
       try clear c6
       try clear c7
       try clear c8
       try clear c9
       try clear c14
       try clear c16
       try clear c19
       try clear c20
       try clear c22
       try clear c23
       try clear c24
       try clear c29
       try clear c30
       try clear c36
       try clear c37
       try clear c38
       try clear c43
       try clear c44
       try clear c45
       try clear c46
       try clear c48
       try clear c49
       try clear c52
       try clear c53
       try clear c54
       try clear c56
       try clear c57
       try clear c60
       try clear c63
       try clear c71
       try clear c72
       try clear c73
       try clear c76
       try clear c76b0
       try clear c78
       try clear c79
       try clear c80
       try clear c81
       try clear c83
       try clear c84
       try clear c87
       try clear c88
       try clear c89
       try clear c91
       try clear c92
       try clear hcz14_0
       try clear hcz14_1
       try clear hcz14_2
       try clear hcz16_0
       try clear hcz16_1
       try clear hcz16_2
       try clear hcz23_0
       try clear hcz23_1
       try clear hcz23_2
       try clear hcz26_0
       try clear hcz26_1
       try clear hcz26_2
       try clear hcz31_0
       try clear hcz31_1
       try clear hcz31_2
       try clear hcz39_0
       try clear hcz39_1
       try clear hcz39_2
       try clear hcz47_0
       try clear hcz47_1
       try clear hcz47_2
       try clear hcz50_0
       try clear hcz50_1
       try clear hcz50_2
       try clear hcz55_0
       try clear hcz55_1
       try clear hcz55_2
       try clear hcz58_0
       try clear hcz58_1
       try clear hcz58_2
       try clear hcz6_0
       try clear hcz6_1
       try clear hcz6_2
       try clear hcz74_0
       try clear hcz74_1
       try clear hcz74_2
       try clear hcz82_0
       try clear hcz82_1
       try clear hcz82_2
       try clear hcz85_0
       try clear hcz85_1
       try clear hcz85_2
       try clear hcz90_0
       try clear hcz90_1
       try clear hcz90_2
       try clear hcz93_0
       try clear hcz93_1
       try clear hcz93_2
       try clear hfz14_0
       try clear hfz14_1
       try clear hfz14_2
       try clear hfz16_0
       try clear hfz16_1
       try clear hfz16_2
       try clear hfz23_0
       try clear hfz23_1
       try clear hfz23_2
       try clear hfz26_0
       try clear hfz26_1
       try clear hfz26_2
       try clear hfz31_0
       try clear hfz31_1
       try clear hfz31_2
       try clear hfz39_0
       try clear hfz39_1
       try clear hfz39_2
       try clear hfz47_0
       try clear hfz47_1
       try clear hfz47_2
       try clear hfz50_0
       try clear hfz50_1
       try clear hfz50_2
       try clear hfz55_0
       try clear hfz55_1
       try clear hfz55_2
       try clear hfz58_0
       try clear hfz58_1
       try clear hfz58_2
       try clear hfz6_0
       try clear hfz6_1
       try clear hfz6_2
       try clear hfz74_0
       try clear hfz74_1
       try clear hfz74_2
       try clear hfz82_0
       try clear hfz82_1
       try clear hfz82_2
       try clear hfz85_0
       try clear hfz85_1
       try clear hfz85_2
       try clear hfz90_0
       try clear hfz90_1
       try clear hfz90_2
       try clear hfz93_0
       try clear hfz93_1
       try clear hfz93_2
       try clear p2
       obtain ⟨kq, x65_64, rfl, HA, HJ64, HO_369001, HO_369002, HO_377001, HO_377002, HO_386001, HO_386002, BK351, BK368, BK376, BK385, HB⟩ := hcut
       have hl377001_64 := (Kd.R_reads' HO_377001.out).1
       rw [hl377001_64] at HO_377001
       (try simp only [hl377001_64])
       (try simp only [hl377001_64] at BK351)
       (try simp only [hl377001_64] at BK368)
       (try simp only [hl377001_64] at BK376)
       (try simp only [hl377001_64] at BK385)
       (try simp only [hl377001_64] at HO_369001)
       (try simp only [hl377001_64] at HO_369002)
       (try simp only [hl377001_64] at HO_377002)
       (try simp only [hl377001_64] at HO_386001)
       (try simp only [hl377001_64] at HO_386002)
       have hl377002_64 := (Kd.R_reads' HO_377002.out).1
       rw [hl377002_64] at HO_377002
       (try simp only [hl377002_64])
       (try simp only [hl377002_64] at BK351)
       (try simp only [hl377002_64] at BK368)
       (try simp only [hl377002_64] at BK376)
       (try simp only [hl377002_64] at BK385)
       (try simp only [hl377002_64] at HO_369001)
       (try simp only [hl377002_64] at HO_369002)
       (try simp only [hl377002_64] at HO_377001)
       (try simp only [hl377002_64] at HO_386001)
       (try simp only [hl377002_64] at HO_386002)
       cases kq with
       | zero => exact absurd HA.out (by simp [laws_FnExactStepOfJacobi.j1])
       | succ kj64 =>
        have H := HA.out
        clear HA
        simp only [laws_FnExactStepOfJacobi.j1] at H
        by_cases c95 : x65_64 = true
        ·subst c95
         have H1 : (some false) = some r := by rw [if_pos rfl] at H; exact H
         clear H
         have H := H1
         clear H1
         exact absurd (H.trans (congrArg some hT.out)) (by simp)
        ·replace c95 := Bool.eq_false_iff.mpr c95
         subst c95
         have H1 : ((laws_markJacobi.f kj64 t377 t378 t381 1).bind fun bt399 => ((laws_heldJacobi.f kj64 t377 bt399.2.1 bt399.2.2 1).bind fun t402 => (if t402 < 0 then (some false) else (if t402 = bt399.1 then ((laws_toJacobi.f kj64 a0_0 l0_1 l0_2).bind fun bt403 => ((impl_StepOfJacobi.f kj64 bt403.1 bt403.2.1 bt403.2.2 a1).bind fun bt410 => ((laws_eqJacobi.f kj64 bt410.1 bt410.2.1 bt410.2.2.1 t360 t361 t364).bind fun t419 => (if t419 = true then (laws_FnExactStepOfJacobi.j2 kj64 bt399.1 (bt410.2.2.2 != t367) t377 bt399.2.1 bt399.2.2) else (laws_FnExactStepOfJacobi.j2 kj64 bt399.1 true t377 bt399.2.1 bt399.2.2))))) else (some false))))) = some r := by rw [if_neg (show ¬ (false = true) by decide)] at H; exact H
         clear H
         have H := H1
         clear H1
         replace H := Option.bind_eq_some_iff.mp H
         obtain ⟨⟨t399, t400, t401⟩, A960, H⟩ := H
         replace H : ((laws_heldJacobi.f kj64 t377 t400 t401 1).bind fun t402 => (if t402 < 0 then (some false) else (if t402 = t399 then ((laws_toJacobi.f kj64 a0_0 l0_1 l0_2).bind fun bt403 => ((impl_StepOfJacobi.f kj64 bt403.1 bt403.2.1 bt403.2.2 a1).bind fun bt410 => ((laws_eqJacobi.f kj64 bt410.1 bt410.2.1 bt410.2.2.1 t360 t361 t364).bind fun t419 => (if t419 = true then (laws_FnExactStepOfJacobi.j2 kj64 t399 (bt410.2.2.2 != t367) t377 t400 t401) else (laws_FnExactStepOfJacobi.j2 kj64 t399 true t377 t400 t401))))) else (some false)))) = some r := H
         have A96 := Aside0.mk A960
         clear A960
         replace H := Option.bind_eq_some_iff.mp H
         obtain ⟨t402, A970, H⟩ := H
         replace H : (if t402 < 0 then (some false) else (if t402 = t399 then ((laws_toJacobi.f kj64 a0_0 l0_1 l0_2).bind fun bt403 => ((impl_StepOfJacobi.f kj64 bt403.1 bt403.2.1 bt403.2.2 a1).bind fun bt410 => ((laws_eqJacobi.f kj64 bt410.1 bt410.2.1 bt410.2.2.1 t360 t361 t364).bind fun t419 => (if t419 = true then (laws_FnExactStepOfJacobi.j2 kj64 t399 (bt410.2.2.2 != t367) t377 t400 t401) else (laws_FnExactStepOfJacobi.j2 kj64 t399 true t377 t400 t401))))) else (some false))) = some r := H
         have A97 := Aside0.mk A970
         clear A970
         by_cases c98 : t402 < 0
         ·rw [if_pos c98] at H
          have c98b0 : decide (t402 < 0) = true := decide_eq_true c98
          clear c98
          exact absurd (H.trans (congrArg some hT.out)) (by simp)
         ·rw [if_neg c98] at H
          have c98b0 : decide (t402 < 0) = false := decide_eq_false c98
          clear c98
          by_cases c99 : t402 = t399
          ·rw [if_pos c99] at H
           have c99b0 : (t402 == t399) = true := beq_iff_eq.mpr c99
           have c99b1 : (t402 != t399) = false := bne_eq_false_iff_eq.mpr c99
           clear c99
           replace H := Option.bind_eq_some_iff.mp H
           obtain ⟨⟨t403, t404, t407⟩, A1000, H⟩ := H
           replace H : ((impl_StepOfJacobi.f kj64 t403 t404 t407 a1).bind fun bt410 => ((laws_eqJacobi.f kj64 bt410.1 bt410.2.1 bt410.2.2.1 t360 t361 t364).bind fun t419 => (if t419 = true then (laws_FnExactStepOfJacobi.j2 kj64 t399 (bt410.2.2.2 != t367) t377 t400 t401) else (laws_FnExactStepOfJacobi.j2 kj64 t399 true t377 t400 t401)))) = some r := H
           have A100 := Aside0.mk A1000
           clear A1000
           replace H := Option.bind_eq_some_iff.mp H
           obtain ⟨⟨t410, t411, t414, t417⟩, A1010, H⟩ := H
           replace H : ((laws_eqJacobi.f kj64 t410 t411 t414 t360 t361 t364).bind fun t419 => (if t419 = true then (laws_FnExactStepOfJacobi.j2 kj64 t399 (t417 != t367) t377 t400 t401) else (laws_FnExactStepOfJacobi.j2 kj64 t399 true t377 t400 t401))) = some r := H
           have A101 := Aside0.mk A1010
           clear A1010
           have HC102 := Aside0.mk H
           clear H
           have hnb103 := NB385_351.out
           have hnc103 := NB351_385.out
           have hnb104 := NB385_368.out
           have hnc104 := NB368_385.out
           have hnb105 := NB385_376.out
           have hnc105 := NB376_385.out
           obtain ⟨hcz106_0, hcz106_1, hcz106_2, hfz106_0, hfz106_1, hfz106_2⟩ := ZD3 BK385
           go_upto_region 25 with (first | ((with_reducible refine gate_callee (f := 20) rfl ?_); refine goesL_ (some 68) rfl rfl Try.func20 (by kernel_rfl) rfl #[.agg #[.int .i64 t377, .slice Ao40 t378.length co40, .slice Ao41 t381.length co41], .int .i64 1] rfl ZA ?_; (with_reducible refine (laws_markJacobi.calls kj64 t377 (fun k_ => some k_ = (.slice Ao40 t378.length co40 : Value).ownBlock) (.slice Ao40 t378.length co40) t378 (fun k_ => some k_ = (.slice Ao41 t381.length co41 : Value).ownBlock) (.slice Ao41 t381.length co41) t381 1 t399 t400 t401 w _ ?side1 ?side2 ?side3 ?side4 ?side5 A96.out).mono ?_); (case side1 => repeat (first | (with_reducible first | exact HB.out | apply below_alloc | apply pw_below_drewN | apply below_drew1 | refine below_set ?_ GE351.out | refine below_set ?_ GE368.out | refine below_set ?_ GE376.out | refine below_set ?_ GE385.out) | exact HB.out)); (case side2 => exact Kd.R_tight rfl HO_386001.out); (case side3 => exact fun k_ e_ => (HO_386001.out.1 k_ e_.symm).2.2.2.2); (case side4 => exact Kd.R_tight rfl HO_386002.out); (case side5 => exact fun k_ e_ => (HO_386002.out.1 k_ e_.symm).2.2.2.2); rintro e w107 ⟨rfl, hy0, hy1, hb, hkp⟩; refine ⟨_, rfl, ?_⟩; have n0_ := Aside0.mk (Kd.R_mono (ok' := fun k_ => some k_ ≠ (.slice Ao25 t364.length co25 : Value).ownBlock ∧ some k_ ≠ (.slice Ao32 t396.length co32 : Value).ownBlock ∧ some k_ ≠ (.slice Ao33 t397.length co33 : Value).ownBlock ∧ some k_ ≠ (.slice Ao40 t378.length co40 : Value).ownBlock ∧ some k_ ≠ (.slice Ao41 t381.length co41 : Value).ownBlock) (Kd.R_keptB (HO_369001.out) hkp (fun k_ hk_ hs_ => Or.elim hs_ (fun e_ => (hk_.2.2.2.1) e_) (fun e_ => (hk_.2.2.2.2) e_))) (fun k_ hk_ => ⟨hk_.1.1, hk_.1.2.1, hk_.1.2.2.1, hk_.1.2.2.2.1, hk_.1.2.2.2.2⟩)); have n1_ := Aside0.mk (Kd.R_mono (ok' := fun k_ => some k_ ≠ (.slice Ao24 t361.length co24 : Value).ownBlock ∧ some k_ ≠ (.slice Ao32 t396.length co32 : Value).ownBlock ∧ some k_ ≠ (.slice Ao33 t397.length co33 : Value).ownBlock ∧ some k_ ≠ (.slice Ao40 t378.length co40 : Value).ownBlock ∧ some k_ ≠ (.slice Ao41 t381.length co41 : Value).ownBlock) (Kd.R_keptB (HO_369002.out) hkp (fun k_ hk_ hs_ => Or.elim hs_ (fun e_ => (hk_.2.2.2.1) e_) (fun e_ => (hk_.2.2.2.2) e_))) (fun k_ hk_ => ⟨hk_.1.1, hk_.1.2.1, hk_.1.2.2.1, hk_.1.2.2.2.1, hk_.1.2.2.2.2⟩)); have n2_ := Aside0.mk (Kd.R_mono (ok' := fun k_ => some k_ ≠ (.slice Ao24 t361.length co24 : Value).ownBlock ∧ some k_ ≠ (.slice Ao25 t364.length co25 : Value).ownBlock ∧ some k_ ≠ (.slice Ao33 t397.length co33 : Value).ownBlock ∧ some k_ ≠ (.slice Ao40 t378.length co40 : Value).ownBlock ∧ some k_ ≠ (.slice Ao41 t381.length co41 : Value).ownBlock) (Kd.R_keptB (HO_377001.out) hkp (fun k_ hk_ hs_ => Or.elim hs_ (fun e_ => (hk_.2.2.2.1) e_) (fun e_ => (hk_.2.2.2.2) e_))) (fun k_ hk_ => ⟨hk_.1.1, hk_.1.2.1, hk_.1.2.2.1, hk_.1.2.2.2.1, hk_.1.2.2.2.2⟩)); have n3_ := Aside0.mk (Kd.R_mono (ok' := fun k_ => some k_ ≠ (.slice Ao24 t361.length co24 : Value).ownBlock ∧ some k_ ≠ (.slice Ao25 t364.length co25 : Value).ownBlock ∧ some k_ ≠ (.slice Ao32 t396.length co32 : Value).ownBlock ∧ some k_ ≠ (.slice Ao40 t378.length co40 : Value).ownBlock ∧ some k_ ≠ (.slice Ao41 t381.length co41 : Value).ownBlock) (Kd.R_keptB (HO_377002.out) hkp (fun k_ hk_ hs_ => Or.elim hs_ (fun e_ => (hk_.2.2.2.1) e_) (fun e_ => (hk_.2.2.2.2) e_))) (fun k_ hk_ => ⟨hk_.1.1, hk_.1.2.1, hk_.1.2.2.1, hk_.1.2.2.2.1, hk_.1.2.2.2.2⟩)); have n4_ := Aside0.mk (Kd.R_reok rfl hy0 (fun k_ e_ => HO_386001.out.1 k_ e_)); have n5_ := Aside0.mk (Kd.R_reok rfl hy1 (fun k_ e_ => HO_386002.out.1 k_ e_)); have n6_ := Aside0.mk (blk_kept (ZK BK351) hkp (fun hs_ => Or.elim hs_ (fun e_ => (fun e_ => (Kd.R_ne HO_386001.out BK351.out (by decide)) e_) e_) (fun e_ => (fun e_ => (Kd.R_ne HO_386002.out BK351.out (by decide)) e_) e_))); have n7_ := Aside0.mk (blk_kept (ZK BK368) hkp (fun hs_ => Or.elim hs_ (fun e_ => (fun e_ => (Kd.R_ne HO_386001.out BK368.out (by decide)) e_) e_) (fun e_ => (fun e_ => (Kd.R_ne HO_386002.out BK368.out (by decide)) e_) e_))); have n8_ := Aside0.mk (blk_kept (ZK BK376) hkp (fun hs_ => Or.elim hs_ (fun e_ => (fun e_ => (Kd.R_ne HO_386001.out BK376.out (by decide)) e_) e_) (fun e_ => (fun e_ => (Kd.R_ne HO_386002.out BK376.out (by decide)) e_) e_))); have n9_ := Aside0.mk (blk_kept (ZK BK385) hkp (fun hs_ => Or.elim hs_ (fun e_ => (fun e_ => (Kd.R_ne HO_386001.out BK385.out (by decide)) e_) e_) (fun e_ => (fun e_ => (Kd.R_ne HO_386002.out BK385.out (by decide)) e_) e_))); have n10_ := Aside0.mk (hb); clear HO_369001; clear HO_369002; clear HO_377001; clear HO_377002; clear HO_386001; clear HO_386002; clear BK351; clear BK368; clear BK376; clear BK385; clear HB; have HO_369001 := n0_; have HO_369002 := n1_; have HO_377001 := n2_; have HO_377002 := n3_; have HO_386001 := n4_; have HO_386002 := n5_; have BK351 := n6_; have BK368 := n7_; have BK376 := n8_; have BK385 := n9_; have HB := n10_; clear n0_ n1_ n2_ n3_ n4_ n5_ n6_ n7_ n8_ n9_ n10_; (try clear hb); (try clear hkp); (try clear hy0); (try clear hy1); obtain ⟨hcz108_0, hcz108_1, hcz108_2, hfz108_0, hfz108_1, hfz108_2⟩ := ZD3 BK385) | ((with_reducible refine gate_callee (f := 25) rfl ?_); refine goesL_ (some 71) rfl rfl Try.func25 (by kernel_rfl) rfl #[.agg #[.int .i64 t377, .slice Ao40 t400.length co40, .slice Ao41 t401.length co41], .int .i64 1] rfl (by (try simp only [List.map_toArray, List.map_cons, List.map_nil]); first | done | (rw [show t400.length = t378.length from (Kd.R_reads' HO_386001.out).1.symm, show t401.length = t381.length from (Kd.R_reads' HO_386002.out).1.symm] <;> rfl) | rfl | (simp only [List.length_drop, List.length_take]; rfl)) ?_; (with_reducible refine (laws_heldJacobi.calls kj64 t377 _ _ t400 _ _ t401 1 t402 _ ?side1 ?side2 ?side3 ?side4 A97.out).mono ?_); (case side1 => repeat (first | exact (Kd.R_reads' HO_386001.out).2.2 | (with_reducible refine Kd.C_alloc ?_ _) | (with_reducible refine Kd.C_drewN ?_ _) | (with_reducible refine Kd.C_drew ?_))); (case side2 => rw [show t400.length = t378.length from (Kd.R_reads' HO_386001.out).1.symm]; exact (Kd.R_reads' HO_386001.out).2.1); (case side3 => repeat (first | exact (Kd.R_reads' HO_386002.out).2.2 | (with_reducible refine Kd.C_alloc ?_ _) | (with_reducible refine Kd.C_drewN ?_ _) | (with_reducible refine Kd.C_drew ?_))); (case side4 => rw [show t401.length = t381.length from (Kd.R_reads' HO_386002.out).1.symm]; exact (Kd.R_reads' HO_386002.out).2.1); rintro e w109 ⟨rfl, hb⟩; refine ⟨_, rfl, ?_⟩; have n0_ := Aside0.mk (Kd.R_below (ZR HO_369001) hb); have n1_ := Aside0.mk (Kd.R_below (ZR HO_369002) hb); have n2_ := Aside0.mk (Kd.R_below (ZR HO_377001) hb); have n3_ := Aside0.mk (Kd.R_below (ZR HO_377002) hb); have n4_ := Aside0.mk (Kd.R_below (ZR HO_386001) hb); have n5_ := Aside0.mk (Kd.R_below (ZR HO_386002) hb); have n6_ := ZL BK351 hb; have n7_ := ZL BK368 hb; have n8_ := ZL BK376 hb; have n9_ := ZL BK385 hb; have n10_ := Aside0.mk (below_step ZB hb); clear HO_369001; clear HO_369002; clear HO_377001; clear HO_377002; clear HO_386001; clear HO_386002; clear BK351; clear BK368; clear BK376; clear BK385; clear HB; have HO_369001 := n0_; have HO_369002 := n1_; have HO_377001 := n2_; have HO_377002 := n3_; have HO_386001 := n4_; have HO_386002 := n5_; have BK351 := n6_; have BK368 := n7_; have BK376 := n8_; have BK385 := n9_; have HB := n10_; clear n0_ n1_ n2_ n3_ n4_ n5_ n6_ n7_ n8_ n9_ n10_; (try clear hb); (try clear hb2); (try clear hk); (try clear hi); have hnb110 := NB351_368.out; have hnc110 := NB368_351.out; have hnb111 := NB351_376.out; have hnc111 := NB376_351.out; obtain ⟨hcz112_0, hcz112_1, hcz112_2, hfz112_0, hfz112_1, hfz112_2⟩ := ZD3 BK351) | ((with_reducible refine gate_callee (f := 16) rfl ?_); refine goesL_ (some 79) rfl rfl Try.func16 (by kernel_rfl) rfl #[.agg #[.int .i64 a0_0, .slice A0_1 l0_1.length c0_1, .slice A0_2 l0_2.length c0_2]] rfl ZA ?_; (with_reducible refine (laws_toJacobi.calls kj64 a0_0 _ _ l0_1 _ _ l0_2 t403 t404 t407 _ ?side1 ?side2 ?side3 ?side4 A100.out).mono ?_); (case side1 => exact ZC HR0_1); (case side2 => exact HC0_1.out); (case side3 => exact ZC HR0_2); (case side4 => exact HC0_2.out); rintro e w113 ⟨v405, v408, rfl, ho0, ho1, hb⟩; refine ⟨_, rfl, ?_⟩; have n0_ := Aside0.mk (Kd.R_mono (Kd.R_told (Kd.R_told (Kd.R_old (ZR HO_369001) hb) (Kd.R_base ho0)) (Kd.R_base ho1)) (fun _ h_ => h_.1)); have n1_ := Aside0.mk (Kd.R_mono (Kd.R_told (Kd.R_told (Kd.R_old (ZR HO_369002) hb) (Kd.R_base ho0)) (Kd.R_base ho1)) (fun _ h_ => h_.1)); have n2_ := Aside0.mk (Kd.R_mono (Kd.R_told (Kd.R_told (Kd.R_old (ZR HO_377001) hb) (Kd.R_base ho0)) (Kd.R_base ho1)) (fun _ h_ => h_.1)); have n3_ := Aside0.mk (Kd.R_mono (Kd.R_told (Kd.R_told (Kd.R_old (ZR HO_377002) hb) (Kd.R_base ho0)) (Kd.R_base ho1)) (fun _ h_ => h_.1)); have n4_ := Aside0.mk (Kd.R_mono (Kd.R_told (Kd.R_told (Kd.R_old (ZR HO_386001) hb) (Kd.R_base ho0)) (Kd.R_base ho1)) (fun _ h_ => h_.1)); have n5_ := Aside0.mk (Kd.R_mono (Kd.R_told (Kd.R_told (Kd.R_old (ZR HO_386002) hb) (Kd.R_base ho0)) (Kd.R_base ho1)) (fun _ h_ => h_.1)); have n6_ := Aside0.mk (Kd.R_lower (Kd.R_new' (Kd.R_new' (Kd.R_new' (Kd.R_new' (Kd.R_new' (Kd.R_new' ho0 (Kd.R_lt (ZR HO_369001))) (Kd.R_lt (ZR HO_369002))) (Kd.R_lt (ZR HO_377001))) (Kd.R_lt (ZR HO_377002))) (Kd.R_lt (ZR HO_386001))) (Kd.R_lt (ZR HO_386002))) (below_size ZB)); have n7_ := Aside0.mk (Kd.R_lower (Kd.R_new' (Kd.R_new' (Kd.R_new' (Kd.R_new' (Kd.R_new' (Kd.R_new' ho1 (Kd.R_lt (ZR HO_369001))) (Kd.R_lt (ZR HO_369002))) (Kd.R_lt (ZR HO_377001))) (Kd.R_lt (ZR HO_377002))) (Kd.R_lt (ZR HO_386001))) (Kd.R_lt (ZR HO_386002))) (below_size ZB)); have n8_ := ZL BK351 hb; have n9_ := ZL BK368 hb; have n10_ := ZL BK376 hb; have n11_ := ZL BK385 hb; have n12_ := Aside0.mk (below_step ZB hb); clear HO_369001; clear HO_369002; clear HO_377001; clear HO_377002; clear HO_386001; clear HO_386002; clear BK351; clear BK368; clear BK376; clear BK385; clear HB; have HO_369001 := n0_; have HO_369002 := n1_; have HO_377001 := n2_; have HO_377002 := n3_; have HO_386001 := n4_; have HO_386002 := n5_; have HO406 := n6_; have HO409 := n7_; have BK351 := n8_; have BK368 := n9_; have BK376 := n10_; have BK385 := n11_; have HB := n12_; clear n0_ n1_ n2_ n3_ n4_ n5_ n6_ n7_ n8_ n9_ n10_ n11_ n12_; (try clear hb); (try clear hb2); (try clear hk); (try clear hi); (try clear ho0); (try clear ho1); obtain ⟨Ao114, co114, eo114⟩ := Kd.R_slice HO406.out; subst eo114; obtain ⟨Ao115, co115, eo115⟩ := Kd.R_slice HO409.out; subst eo115) | ((with_reducible refine gate_callee (f := 24) rfl ?_); refine goesL_ (some 81) rfl rfl Try.func24 (by kernel_rfl) rfl #[.agg #[.int .i64 t403, .slice Ao114 t404.length co114, .slice Ao115 t407.length co115], .int .i64 a1] rfl ZA ?_; (with_reducible refine (impl_StepOfJacobi.calls kj64 t403 _ _ t404 _ _ t407 a1 t410 t411 t414 t417 _ ?side1 ?side2 ?side3 ?side4 A101.out).mono ?_); (case side1 => repeat (first | exact (Kd.R_reads' HO406.out).2.2 | (with_reducible refine Kd.C_alloc ?_ _) | (with_reducible refine Kd.C_drewN ?_ _) | (with_reducible refine Kd.C_drew ?_))); (case side2 => exact (Kd.R_reads' HO406.out).2.1); (case side3 => repeat (first | exact (Kd.R_reads' HO409.out).2.2 | (with_reducible refine Kd.C_alloc ?_ _) | (with_reducible refine Kd.C_drewN ?_ _) | (with_reducible refine Kd.C_drew ?_))); (case side4 => exact (Kd.R_reads' HO409.out).2.1); rintro e w116 ⟨v412, v415, rfl, ho0, ho1, hb⟩; refine ⟨_, rfl, ?_⟩; have n0_ := Aside0.mk (Kd.R_mono (Kd.R_told (Kd.R_told (Kd.R_old (ZR HO_369001) hb) (Kd.R_base ho0)) (Kd.R_base ho1)) (fun _ h_ => h_.1)); have n1_ := Aside0.mk (Kd.R_mono (Kd.R_told (Kd.R_told (Kd.R_old (ZR HO_369002) hb) (Kd.R_base ho0)) (Kd.R_base ho1)) (fun _ h_ => h_.1)); have n2_ := Aside0.mk (Kd.R_mono (Kd.R_told (Kd.R_told (Kd.R_old (ZR HO_377001) hb) (Kd.R_base ho0)) (Kd.R_base ho1)) (fun _ h_ => h_.1)); have n3_ := Aside0.mk (Kd.R_mono (Kd.R_told (Kd.R_told (Kd.R_old (ZR HO_377002) hb) (Kd.R_base ho0)) (Kd.R_base ho1)) (fun _ h_ => h_.1)); have n4_ := Aside0.mk (Kd.R_mono (Kd.R_told (Kd.R_told (Kd.R_old (ZR HO_386001) hb) (Kd.R_base ho0)) (Kd.R_base ho1)) (fun _ h_ => h_.1)); have n5_ := Aside0.mk (Kd.R_mono (Kd.R_told (Kd.R_told (Kd.R_old (ZR HO_386002) hb) (Kd.R_base ho0)) (Kd.R_base ho1)) (fun _ h_ => h_.1)); have n6_ := Aside0.mk (Kd.R_mono (Kd.R_told (Kd.R_told (Kd.R_old (ZR HO406) hb) (Kd.R_base ho0)) (Kd.R_base ho1)) (fun _ h_ => h_.1)); have n7_ := Aside0.mk (Kd.R_mono (Kd.R_told (Kd.R_told (Kd.R_old (ZR HO409) hb) (Kd.R_base ho0)) (Kd.R_base ho1)) (fun _ h_ => h_.1)); have n8_ := Aside0.mk (Kd.R_lower (Kd.R_new' (Kd.R_new' (Kd.R_new' (Kd.R_new' (Kd.R_new' (Kd.R_new' (Kd.R_new' (Kd.R_new' ho0 (Kd.R_lt (ZR HO_369001))) (Kd.R_lt (ZR HO_369002))) (Kd.R_lt (ZR HO_377001))) (Kd.R_lt (ZR HO_377002))) (Kd.R_lt (ZR HO_386001))) (Kd.R_lt (ZR HO_386002))) (Kd.R_lt (ZR HO406))) (Kd.R_lt (ZR HO409))) (below_size ZB)); have n9_ := Aside0.mk (Kd.R_lower (Kd.R_new' (Kd.R_new' (Kd.R_new' (Kd.R_new' (Kd.R_new' (Kd.R_new' (Kd.R_new' (Kd.R_new' ho1 (Kd.R_lt (ZR HO_369001))) (Kd.R_lt (ZR HO_369002))) (Kd.R_lt (ZR HO_377001))) (Kd.R_lt (ZR HO_377002))) (Kd.R_lt (ZR HO_386001))) (Kd.R_lt (ZR HO_386002))) (Kd.R_lt (ZR HO406))) (Kd.R_lt (ZR HO409))) (below_size ZB)); have n10_ := ZL BK351 hb; have n11_ := ZL BK368 hb; have n12_ := ZL BK376 hb; have n13_ := ZL BK385 hb; have n14_ := Aside0.mk (below_step ZB hb); clear HO_369001; clear HO_369002; clear HO_377001; clear HO_377002; clear HO_386001; clear HO_386002; clear HO406; clear HO409; clear BK351; clear BK368; clear BK376; clear BK385; clear HB; have HO_369001 := n0_; have HO_369002 := n1_; have HO_377001 := n2_; have HO_377002 := n3_; have HO_386001 := n4_; have HO_386002 := n5_; have HO406 := n6_; have HO409 := n7_; have HO413 := n8_; have HO416 := n9_; have BK351 := n10_; have BK368 := n11_; have BK376 := n12_; have BK385 := n13_; have HB := n14_; clear n0_ n1_ n2_ n3_ n4_ n5_ n6_ n7_ n8_ n9_ n10_ n11_ n12_ n13_ n14_; (try clear hb); (try clear hb2); (try clear hk); (try clear hi); (try clear ho0); (try clear ho1)) | ((with_reducible refine gate_dst (N := 14) rfl ?_); refine box_event ?hg (N := 14) ?hd (cs := #[.int .i64 0, .slice none 0 0, .slice none 0 0]) (t := 29) ?hr ?_; (case hd => rfl); (case hg => rfl); (case hr => first | (go_simp; done) | (go_simp; rfl)); intro gb418 hg w117 hbox hb; have n0_ := Aside0.mk (Kd.R_below (ZR HO_369001) hb); have n1_ := Aside0.mk (Kd.R_below (ZR HO_369002) hb); have n2_ := Aside0.mk (Kd.R_below (ZR HO_377001) hb); have n3_ := Aside0.mk (Kd.R_below (ZR HO_377002) hb); have n4_ := Aside0.mk (Kd.R_below (ZR HO_386001) hb); have n5_ := Aside0.mk (Kd.R_below (ZR HO_386002) hb); have n6_ := Aside0.mk (Kd.R_below (ZR HO406) hb); have n7_ := Aside0.mk (Kd.R_below (ZR HO409) hb); have n8_ := Aside0.mk (Kd.R_below (ZR HO413) hb); have n9_ := Aside0.mk (Kd.R_below (ZR HO416) hb); have n10_ := ZL BK351 hb; have n11_ := ZL BK368 hb; have n12_ := ZL BK376 hb; have n13_ := ZL BK385 hb; have n14_ := Aside0.mk (below_step ZB hb); have n15_ := Aside0.mk (hbox); have n16_ := Aside0.mk ((ZG hg : w.heap.size ≤ gb418)); have n17_ := Aside0.mk ((ZG hg : w.heap.size ≤ gb418)); have n18_ := Aside0.mk ((ZN hg BK351 : gb351 ≠ gb418)); have n19_ := Aside0.mk ((ZM hg BK351 : gb418 ≠ gb351)); have n20_ := Aside0.mk ((ZN hg BK368 : gb368 ≠ gb418)); have n21_ := Aside0.mk ((ZM hg BK368 : gb418 ≠ gb368)); have n22_ := Aside0.mk ((ZN hg BK376 : gb376 ≠ gb418)); have n23_ := Aside0.mk ((ZM hg BK376 : gb418 ≠ gb376)); have n24_ := Aside0.mk ((ZN hg BK385 : gb385 ≠ gb418)); have n25_ := Aside0.mk ((ZM hg BK385 : gb418 ≠ gb385)); clear HO_369001; clear HO_369002; clear HO_377001; clear HO_377002; clear HO_386001; clear HO_386002; clear HO406; clear HO409; clear HO413; clear HO416; clear BK351; clear BK368; clear BK376; clear BK385; clear HB; have HO_369001 := n0_; have HO_369002 := n1_; have HO_377001 := n2_; have HO_377002 := n3_; have HO_386001 := n4_; have HO_386002 := n5_; have HO406 := n6_; have HO409 := n7_; have HO413 := n8_; have HO416 := n9_; have BK351 := n10_; have BK368 := n11_; have BK376 := n12_; have BK385 := n13_; have HB := n14_; have BK418 := n15_; have GW418 := n16_; have GE418 := n17_; have NB351_418 := n18_; have NB418_351 := n19_; have NB368_418 := n20_; have NB418_368 := n21_; have NB376_418 := n22_; have NB418_376 := n23_; have NB385_418 := n24_; have NB418_385 := n25_; clear n0_ n1_ n2_ n3_ n4_ n5_ n6_ n7_ n8_ n9_ n10_ n11_ n12_ n13_ n14_ n15_ n16_ n17_ n18_ n19_ n20_ n21_ n22_ n23_ n24_ n25_; clear hb hbox hg; have hnb118 := NB418_351.out; have hnc118 := NB351_418.out; have hnb119 := NB418_368.out; have hnc119 := NB368_418.out; have hnb120 := NB418_376.out; have hnc120 := NB376_418.out; have hnb121 := NB418_385.out; have hnc121 := NB385_418.out; obtain ⟨hcz122_0, hcz122_1, hcz122_2, hfz122_0, hfz122_1, hfz122_2⟩ := ZD3 BK418; obtain ⟨Ao123, co123, eo123⟩ := Kd.R_slice HO413.out; subst eo123; obtain ⟨Ao124, co124, eo124⟩ := Kd.R_slice HO416.out; subst eo124))
           (try simp only [Act.put, List.setIfInBounds_toArray, List.set_cons_zero, List.set_cons_succ])
           go_cut [92] (fun v92 wc => ∃ (kq : Nat) (x92_101 : Bool), v92 = .bool x92_101 ∧ Aside0 (laws_FnExactStepOfJacobi.j2 kq t399 x92_101 t377 t400 t401 = some r) ∧ Aside0 (kq ≤ kj64) ∧ Aside0 (Kd.R (Kd.int .i64) 2 wc w.heap.size (fun k_ => some k_ ≠ ((.slice Ao25 t364.length co25) : Value).ownBlock ∧ some k_ ≠ ((.slice Ao32 t396.length co32) : Value).ownBlock ∧ some k_ ≠ ((.slice Ao33 t397.length co33) : Value).ownBlock ∧ some k_ ≠ ((.slice Ao40 t378.length co40) : Value).ownBlock ∧ some k_ ≠ ((.slice Ao41 t381.length co41) : Value).ownBlock ∧ some k_ ≠ ((.slice Ao123 t411.length co123) : Value).ownBlock ∧ some k_ ≠ ((.slice Ao124 t414.length co124) : Value).ownBlock) (.slice Ao24 t361.length co24) t361) ∧ Aside0 (Kd.R (Kd.int .i64) 2 wc w.heap.size (fun k_ => some k_ ≠ ((.slice Ao24 t361.length co24) : Value).ownBlock ∧ some k_ ≠ ((.slice Ao32 t396.length co32) : Value).ownBlock ∧ some k_ ≠ ((.slice Ao33 t397.length co33) : Value).ownBlock ∧ some k_ ≠ ((.slice Ao40 t378.length co40) : Value).ownBlock ∧ some k_ ≠ ((.slice Ao41 t381.length co41) : Value).ownBlock ∧ some k_ ≠ ((.slice Ao123 t411.length co123) : Value).ownBlock ∧ some k_ ≠ ((.slice Ao124 t414.length co124) : Value).ownBlock) (.slice Ao25 t364.length co25) t364) ∧ Aside0 (Kd.R (Kd.int .i64) 2 wc w.heap.size (fun k_ => some k_ ≠ ((.slice Ao24 t361.length co24) : Value).ownBlock ∧ some k_ ≠ ((.slice Ao25 t364.length co25) : Value).ownBlock ∧ some k_ ≠ ((.slice Ao33 t397.length co33) : Value).ownBlock ∧ some k_ ≠ ((.slice Ao40 t378.length co40) : Value).ownBlock ∧ some k_ ≠ ((.slice Ao41 t381.length co41) : Value).ownBlock ∧ some k_ ≠ ((.slice Ao123 t411.length co123) : Value).ownBlock ∧ some k_ ≠ ((.slice Ao124 t414.length co124) : Value).ownBlock) (.slice Ao32 t396.length co32) t396) ∧ Aside0 (Kd.R (Kd.int .i64) 2 wc w.heap.size (fun k_ => some k_ ≠ ((.slice Ao24 t361.length co24) : Value).ownBlock ∧ some k_ ≠ ((.slice Ao25 t364.length co25) : Value).ownBlock ∧ some k_ ≠ ((.slice Ao32 t396.length co32) : Value).ownBlock ∧ some k_ ≠ ((.slice Ao40 t378.length co40) : Value).ownBlock ∧ some k_ ≠ ((.slice Ao41 t381.length co41) : Value).ownBlock ∧ some k_ ≠ ((.slice Ao123 t411.length co123) : Value).ownBlock ∧ some k_ ≠ ((.slice Ao124 t414.length co124) : Value).ownBlock) (.slice Ao33 t397.length co33) t397) ∧ Aside0 (Kd.R (Kd.int .i64) 2 wc w.heap.size (fun k_ => some k_ ≠ ((.slice Ao24 t361.length co24) : Value).ownBlock ∧ some k_ ≠ ((.slice Ao25 t364.length co25) : Value).ownBlock ∧ some k_ ≠ ((.slice Ao32 t396.length co32) : Value).ownBlock ∧ some k_ ≠ ((.slice Ao33 t397.length co33) : Value).ownBlock ∧ some k_ ≠ ((.slice Ao41 t381.length co41) : Value).ownBlock ∧ some k_ ≠ ((.slice Ao123 t411.length co123) : Value).ownBlock ∧ some k_ ≠ ((.slice Ao124 t414.length co124) : Value).ownBlock) (.slice Ao40 t378.length co40) t400) ∧ Aside0 (Kd.R (Kd.int .i64) 2 wc w.heap.size (fun k_ => some k_ ≠ ((.slice Ao24 t361.length co24) : Value).ownBlock ∧ some k_ ≠ ((.slice Ao25 t364.length co25) : Value).ownBlock ∧ some k_ ≠ ((.slice Ao32 t396.length co32) : Value).ownBlock ∧ some k_ ≠ ((.slice Ao33 t397.length co33) : Value).ownBlock ∧ some k_ ≠ ((.slice Ao40 t378.length co40) : Value).ownBlock ∧ some k_ ≠ ((.slice Ao123 t411.length co123) : Value).ownBlock ∧ some k_ ≠ ((.slice Ao124 t414.length co124) : Value).ownBlock) (.slice Ao41 t381.length co41) t401) ∧ Aside0 (Kd.R (Kd.int .i64) 2 wc w.heap.size (fun k_ => some k_ ≠ ((.slice Ao24 t361.length co24) : Value).ownBlock ∧ some k_ ≠ ((.slice Ao25 t364.length co25) : Value).ownBlock ∧ some k_ ≠ ((.slice Ao32 t396.length co32) : Value).ownBlock ∧ some k_ ≠ ((.slice Ao33 t397.length co33) : Value).ownBlock ∧ some k_ ≠ ((.slice Ao40 t378.length co40) : Value).ownBlock ∧ some k_ ≠ ((.slice Ao41 t381.length co41) : Value).ownBlock ∧ some k_ ≠ ((.slice Ao124 t414.length co124) : Value).ownBlock) (.slice Ao123 t411.length co123) t411) ∧ Aside0 (Kd.R (Kd.int .i64) 2 wc w.heap.size (fun k_ => some k_ ≠ ((.slice Ao24 t361.length co24) : Value).ownBlock ∧ some k_ ≠ ((.slice Ao25 t364.length co25) : Value).ownBlock ∧ some k_ ≠ ((.slice Ao32 t396.length co32) : Value).ownBlock ∧ some k_ ≠ ((.slice Ao33 t397.length co33) : Value).ownBlock ∧ some k_ ≠ ((.slice Ao40 t378.length co40) : Value).ownBlock ∧ some k_ ≠ ((.slice Ao41 t381.length co41) : Value).ownBlock ∧ some k_ ≠ ((.slice Ao123 t411.length co123) : Value).ownBlock) (.slice Ao124 t414.length co124) t414) ∧ Aside0 (wc.heap[gb351]? = some (.cells #[.int .i64 a0_0, (.slice A0_1 l0_1.length c0_1), (.slice A0_2 l0_2.length c0_2)] 24 (0, 0))) ∧ Aside0 (wc.heap[gb368]? = some (.cells #[.int .i64 t360, (.slice Ao24 t361.length co24), (.slice Ao25 t364.length co25)] 29 (0, 0))) ∧ Aside0 (wc.heap[gb376]? = some (.cells #[.int .i64 t369, (.slice Ao32 t396.length co32), (.slice Ao33 t397.length co33)] 29 (0, 0))) ∧ Aside0 (wc.heap[gb385]? = some (.cells #[.int .i64 t377, (.slice Ao40 t378.length co40), (.slice Ao41 t381.length co41)] 29 (0, 0))) ∧ Aside0 (wc.heap[gb418]? = some (.cells #[.int .i64 t410, (.slice Ao123 t411.length co123), (.slice Ao124 t414.length co124)] 29 (0, 0))) ∧ Aside0 (Below w.heap.size w wc))
           case first =>
            have H := HC102.out
            clear HC102
            replace H := Option.bind_eq_some_iff.mp H
            obtain ⟨t419, A1250, H⟩ := H
            replace H : (if t419 = true then (laws_FnExactStepOfJacobi.j2 kj64 t399 (t417 != t367) t377 t400 t401) else (laws_FnExactStepOfJacobi.j2 kj64 t399 true t377 t400 t401)) = some r := H
            have A125 := Aside0.mk A1250
            clear A1250
            by_cases c126 : t419 = true
            ·subst c126
             have H1 : (laws_FnExactStepOfJacobi.j2 kj64 t399 (t417 != t367) t377 t400 t401) = some r := by rw [if_pos rfl] at H; exact H
             clear H
             have H := H1
             clear H1
             have H' := Aside0.mk H
             clear H
             have hnb127 := NB418_351.out
             have hnc127 := NB351_418.out
             have hnb128 := NB418_368.out
             have hnc128 := NB368_418.out
             have hnb129 := NB418_376.out
             have hnc129 := NB376_418.out
             have hnb130 := NB418_385.out
             have hnc130 := NB385_418.out
             obtain ⟨hcz131_0, hcz131_1, hcz131_2, hfz131_0, hfz131_1, hfz131_2⟩ := ZD3 BK418
             have hnb132 := NB368_351.out
             have hnc132 := NB351_368.out
             have hnb133 := NB368_376.out
             have hnc133 := NB376_368.out
             have hnb134 := NB368_385.out
             have hnc134 := NB385_368.out
             obtain ⟨hcz135_0, hcz135_1, hcz135_2, hfz135_0, hfz135_1, hfz135_2⟩ := ZD3 BK368
             go_wp2_with (first | ((with_reducible refine gate_callee (f := 19) rfl ?_); refine goesL_ (some 86) rfl rfl Try.func19 (by kernel_rfl) rfl #[.agg #[.int .i64 t410, .slice Ao123 t411.length co123, .slice Ao124 t414.length co124], .agg #[.int .i64 t360, .slice Ao24 t361.length co24, .slice Ao25 t364.length co25]] rfl ZA ?_; (with_reducible refine (laws_eqJacobi.calls kj64 t410 _ _ t411 _ _ t414 t360 _ _ t361 _ _ t364 true _ ?side1 ?side2 ?side3 ?side4 ?side5 ?side6 ?side7 ?side8 A125.out).mono ?_); (case side1 => refine (Kd.R_reads' (e := 2) (base := w.heap.size) (ok := fun k_ => ((((((((some k_ ≠ (.slice Ao124 t414.length co124 : Value).ownBlock ∧ some k_ ≠ (.slice Ao24 t361.length co24 : Value).ownBlock) ∧ some k_ ≠ (.slice Ao25 t364.length co25 : Value).ownBlock) ∧ some k_ ≠ (.slice Ao32 t396.length co32 : Value).ownBlock) ∧ some k_ ≠ (.slice Ao33 t397.length co33 : Value).ownBlock) ∧ some k_ ≠ (.slice Ao40 t378.length co40 : Value).ownBlock) ∧ some k_ ≠ (.slice Ao41 t381.length co41 : Value).ownBlock) ∧ some k_ ≠ (.slice Ao114 t404.length co114 : Value).ownBlock) ∧ some k_ ≠ (.slice Ao115 t407.length co115 : Value).ownBlock)) (n := t411.length) (c := co123) ?_).2.2; exact (ZQ (ZF3 HO413 BK418 (.int .i64 t410) (.slice Ao123 t411.length co123) (.slice Ao124 t414.length co124)))); (case side2 => exact (Kd.R_reads' HO413.out).2.1); (case side3 => refine (Kd.R_reads' (e := 2) (base := w.heap.size) (ok := fun k_ => ((((((((some k_ ≠ (.slice Ao123 t411.length co123 : Value).ownBlock ∧ some k_ ≠ (.slice Ao24 t361.length co24 : Value).ownBlock) ∧ some k_ ≠ (.slice Ao25 t364.length co25 : Value).ownBlock) ∧ some k_ ≠ (.slice Ao32 t396.length co32 : Value).ownBlock) ∧ some k_ ≠ (.slice Ao33 t397.length co33 : Value).ownBlock) ∧ some k_ ≠ (.slice Ao40 t378.length co40 : Value).ownBlock) ∧ some k_ ≠ (.slice Ao41 t381.length co41 : Value).ownBlock) ∧ some k_ ≠ (.slice Ao114 t404.length co114 : Value).ownBlock) ∧ some k_ ≠ (.slice Ao115 t407.length co115 : Value).ownBlock)) (n := t414.length) (c := co124) ?_).2.2; exact (ZQ (ZF3 HO416 BK418 (.int .i64 t410) (.slice Ao123 t411.length co123) (.slice Ao124 t414.length co124)))); (case side4 => exact (Kd.R_reads' HO416.out).2.1); (case side5 => refine (Kd.R_reads' (e := 2) (base := w.heap.size) (ok := fun k_ => (((((some k_ ≠ (.slice Ao25 t364.length co25 : Value).ownBlock ∧ (some k_ ≠ (.slice Ao32 t396.length co32 : Value).ownBlock ∧ (some k_ ≠ (.slice Ao33 t397.length co33 : Value).ownBlock ∧ (some k_ ≠ (.slice Ao40 t378.length co40 : Value).ownBlock ∧ some k_ ≠ (.slice Ao41 t381.length co41 : Value).ownBlock)))) ∧ some k_ ≠ (.slice Ao114 t404.length co114 : Value).ownBlock) ∧ some k_ ≠ (.slice Ao115 t407.length co115 : Value).ownBlock) ∧ some k_ ≠ (.slice Ao123 t411.length co123 : Value).ownBlock) ∧ some k_ ≠ (.slice Ao124 t414.length co124 : Value).ownBlock)) (n := t361.length) (c := co24) ?_).2.2; exact (ZQ (ZF3 HO_369001 BK418 (.int .i64 t410) (.slice Ao123 t411.length co123) (.slice Ao124 t414.length co124)))); (case side6 => exact (Kd.R_reads' HO_369001.out).2.1); (case side7 => refine (Kd.R_reads' (e := 2) (base := w.heap.size) (ok := fun k_ => (((((some k_ ≠ (.slice Ao24 t361.length co24 : Value).ownBlock ∧ (some k_ ≠ (.slice Ao32 t396.length co32 : Value).ownBlock ∧ (some k_ ≠ (.slice Ao33 t397.length co33 : Value).ownBlock ∧ (some k_ ≠ (.slice Ao40 t378.length co40 : Value).ownBlock ∧ some k_ ≠ (.slice Ao41 t381.length co41 : Value).ownBlock)))) ∧ some k_ ≠ (.slice Ao114 t404.length co114 : Value).ownBlock) ∧ some k_ ≠ (.slice Ao115 t407.length co115 : Value).ownBlock) ∧ some k_ ≠ (.slice Ao123 t411.length co123 : Value).ownBlock) ∧ some k_ ≠ (.slice Ao124 t414.length co124 : Value).ownBlock)) (n := t364.length) (c := co25) ?_).2.2; exact (ZQ (ZF3 HO_369002 BK418 (.int .i64 t410) (.slice Ao123 t411.length co123) (.slice Ao124 t414.length co124)))); (case side8 => exact (Kd.R_reads' HO_369002.out).2.1); rintro e w136 ⟨rfl, hb⟩; refine ⟨_, rfl, ?_⟩; have n0_ := Aside0.mk (Kd.R_below (ZQ (ZF3 HO_369001 BK418 (.int .i64 t410) (.slice Ao123 t411.length co123) (.slice Ao124 t414.length co124))) hb); have n1_ := Aside0.mk (Kd.R_below (ZQ (ZF3 HO_369002 BK418 (.int .i64 t410) (.slice Ao123 t411.length co123) (.slice Ao124 t414.length co124))) hb); have n2_ := Aside0.mk (Kd.R_below (ZQ (ZF3 HO_377001 BK418 (.int .i64 t410) (.slice Ao123 t411.length co123) (.slice Ao124 t414.length co124))) hb); have n3_ := Aside0.mk (Kd.R_below (ZQ (ZF3 HO_377002 BK418 (.int .i64 t410) (.slice Ao123 t411.length co123) (.slice Ao124 t414.length co124))) hb); have n4_ := Aside0.mk (Kd.R_below (ZQ (ZF3 HO_386001 BK418 (.int .i64 t410) (.slice Ao123 t411.length co123) (.slice Ao124 t414.length co124))) hb); have n5_ := Aside0.mk (Kd.R_below (ZQ (ZF3 HO_386002 BK418 (.int .i64 t410) (.slice Ao123 t411.length co123) (.slice Ao124 t414.length co124))) hb); have n6_ := Aside0.mk (Kd.R_below (ZQ (ZF3 HO406 BK418 (.int .i64 t410) (.slice Ao123 t411.length co123) (.slice Ao124 t414.length co124))) hb); have n7_ := Aside0.mk (Kd.R_below (ZQ (ZF3 HO409 BK418 (.int .i64 t410) (.slice Ao123 t411.length co123) (.slice Ao124 t414.length co124))) hb); have n8_ := Aside0.mk (Kd.R_below (ZQ (ZF3 HO413 BK418 (.int .i64 t410) (.slice Ao123 t411.length co123) (.slice Ao124 t414.length co124))) hb); have n9_ := Aside0.mk (Kd.R_below (ZQ (ZF3 HO416 BK418 (.int .i64 t410) (.slice Ao123 t411.length co123) (.slice Ao124 t414.length co124))) hb); have n10_ := Aside0.mk (blk_below (g := gb351) (o := .cells #[.int .i64 a0_0, .slice A0_1 l0_1.length c0_1, .slice A0_2 l0_2.length c0_2] 24 (0, 0)) (by refine ZS ?_; refine blk_far ?_ NB351_418.out _; refine ZS ?_; refine blk_far ?_ NB351_418.out _; refine ZS ?_; refine blk_far ?_ NB351_418.out _; refine ZS ?_; exact BK351.out) hb); have n11_ := Aside0.mk (blk_below (g := gb368) (o := .cells #[.int .i64 t360, .slice Ao24 t361.length co24, .slice Ao25 t364.length co25] 29 (0, 0)) (by refine ZS ?_; refine blk_far ?_ NB368_418.out _; refine ZS ?_; refine blk_far ?_ NB368_418.out _; refine ZS ?_; refine blk_far ?_ NB368_418.out _; refine ZS ?_; exact BK368.out) hb); have n12_ := Aside0.mk (blk_below (g := gb376) (o := .cells #[.int .i64 t369, .slice Ao32 t396.length co32, .slice Ao33 t397.length co33] 29 (0, 0)) (by refine ZS ?_; refine blk_far ?_ NB376_418.out _; refine ZS ?_; refine blk_far ?_ NB376_418.out _; refine ZS ?_; refine blk_far ?_ NB376_418.out _; refine ZS ?_; exact BK376.out) hb); have n13_ := Aside0.mk (blk_below (g := gb385) (o := .cells #[.int .i64 t377, .slice Ao40 t378.length co40, .slice Ao41 t381.length co41] 29 (0, 0)) (by refine ZS ?_; refine blk_far ?_ NB385_418.out _; refine ZS ?_; refine blk_far ?_ NB385_418.out _; refine ZS ?_; refine blk_far ?_ NB385_418.out _; refine ZS ?_; exact BK385.out) hb); have n14_ := Aside0.mk (blk_below (g := gb418) (o := .cells #[.int .i64 t410, .slice Ao123 t411.length co123, .slice Ao124 t414.length co124] 29 (0, 0)) (by refine ZS ?_; refine blk_put (cs := #[.int .i64 t410, .slice Ao123 t411.length co123, .slice none 0 0]) ?_ 2 _ rfl; refine ZS ?_; refine blk_put (cs := #[.int .i64 t410, .slice none 0 0, .slice none 0 0]) ?_ 1 _ rfl; refine ZS ?_; refine blk_put (cs := #[.int .i64 0, .slice none 0 0, .slice none 0 0]) ?_ 0 _ rfl; refine ZS ?_; exact BK418.out) hb); have n15_ := Aside0.mk (below_step ZB hb); clear HO_369001; clear HO_369002; clear HO_377001; clear HO_377002; clear HO_386001; clear HO_386002; clear HO406; clear HO409; clear HO413; clear HO416; clear BK351; clear BK368; clear BK376; clear BK385; clear BK418; clear HB; have HO_369001 := n0_; have HO_369002 := n1_; have HO_377001 := n2_; have HO_377002 := n3_; have HO_386001 := n4_; have HO_386002 := n5_; have HO406 := n6_; have HO409 := n7_; have HO413 := n8_; have HO416 := n9_; have BK351 := n10_; have BK368 := n11_; have BK376 := n12_; have BK385 := n13_; have BK418 := n14_; have HB := n15_; clear n0_ n1_ n2_ n3_ n4_ n5_ n6_ n7_ n8_ n9_ n10_ n11_ n12_ n13_ n14_ n15_; (try clear hb); (try clear hb2); (try clear hk); (try clear hi)))
             go_meet
             case rel => exact ⟨_, ((t417 != t367)), (by first | rfl | (simp; done) | (simp [*]; done)), H', ⟨by have := HJ11.out; have := HJ64.out; first | omega | exact Nat.le_refl _⟩, ⟨by (try simp only [hl377001_64]); (try simp only [hl377002_64]); refine ZQ ?_; exact Kd.R_mono HO_369001.out (fun _ hk => (And.intro (hk.1.1.1.1.1) ((And.intro (hk.1.1.1.1.2.1) ((And.intro (hk.1.1.1.1.2.2.1) ((And.intro (hk.1.1.1.1.2.2.2.1) ((And.intro (hk.1.1.1.1.2.2.2.2) ((And.intro (hk.1.2) (hk.2)))))))))))))⟩, ⟨by (try simp only [hl377001_64]); (try simp only [hl377002_64]); refine ZQ ?_; exact Kd.R_mono HO_369002.out (fun _ hk => (And.intro (hk.1.1.1.1.1) ((And.intro (hk.1.1.1.1.2.1) ((And.intro (hk.1.1.1.1.2.2.1) ((And.intro (hk.1.1.1.1.2.2.2.1) ((And.intro (hk.1.1.1.1.2.2.2.2) ((And.intro (hk.1.2) (hk.2)))))))))))))⟩, ⟨by (try simp only [hl377001_64]); (try simp only [hl377002_64]); refine ZQ ?_; exact Kd.R_mono HO_377001.out (fun _ hk => (And.intro (hk.1.1.1.1.1) ((And.intro (hk.1.1.1.1.2.1) ((And.intro (hk.1.1.1.1.2.2.1) ((And.intro (hk.1.1.1.1.2.2.2.1) ((And.intro (hk.1.1.1.1.2.2.2.2) ((And.intro (hk.1.2) (hk.2)))))))))))))⟩, ⟨by (try simp only [hl377001_64]); (try simp only [hl377002_64]); refine ZQ ?_; exact Kd.R_mono HO_377002.out (fun _ hk => (And.intro (hk.1.1.1.1.1) ((And.intro (hk.1.1.1.1.2.1) ((And.intro (hk.1.1.1.1.2.2.1) ((And.intro (hk.1.1.1.1.2.2.2.1) ((And.intro (hk.1.1.1.1.2.2.2.2) ((And.intro (hk.1.2) (hk.2)))))))))))))⟩, ⟨by (try simp only [hl377001_64]); (try simp only [hl377002_64]); refine ZQ ?_; exact Kd.R_mono HO_386001.out (fun _ hk => (And.intro (hk.1.1.1.1.1) ((And.intro (hk.1.1.1.1.2.1) ((And.intro (hk.1.1.1.1.2.2.1) ((And.intro (hk.1.1.1.1.2.2.2.1) ((And.intro (hk.1.1.1.1.2.2.2.2) ((And.intro (hk.1.2) (hk.2)))))))))))))⟩, ⟨by (try simp only [hl377001_64]); (try simp only [hl377002_64]); refine ZQ ?_; exact Kd.R_mono HO_386002.out (fun _ hk => (And.intro (hk.1.1.1.1.1) ((And.intro (hk.1.1.1.1.2.1) ((And.intro (hk.1.1.1.1.2.2.1) ((And.intro (hk.1.1.1.1.2.2.2.1) ((And.intro (hk.1.1.1.1.2.2.2.2) ((And.intro (hk.1.2) (hk.2)))))))))))))⟩, ⟨by (try simp only [hl377001_64]); (try simp only [hl377002_64]); refine ZQ ?_; exact Kd.R_mono HO413.out (fun _ hk => (And.intro (hk.1.1.1.1.1.1.1.2) ((And.intro (hk.1.1.1.1.1.1.2) ((And.intro (hk.1.1.1.1.1.2) ((And.intro (hk.1.1.1.1.2) ((And.intro (hk.1.1.1.2) ((And.intro (hk.1.1.2) (hk.1.1.1.1.1.1.1.1)))))))))))))⟩, ⟨by (try simp only [hl377001_64]); (try simp only [hl377002_64]); refine ZQ ?_; exact Kd.R_mono HO416.out (fun _ hk => (And.intro (hk.1.1.1.1.1.1.1.2) ((And.intro (hk.1.1.1.1.1.1.2) ((And.intro (hk.1.1.1.1.1.2) ((And.intro (hk.1.1.1.1.2) ((And.intro (hk.1.1.1.2) ((And.intro (hk.1.1.2) (hk.1.1.1.1.1.1.1.1)))))))))))))⟩, ⟨by (try simp only [hl377001_64]); (try simp only [hl377002_64]); refine ZS ?_; exact BK351.out⟩, ⟨by (try simp only [hl377001_64]); (try simp only [hl377002_64]); refine ZS ?_; exact BK368.out⟩, ⟨by (try simp only [hl377001_64]); (try simp only [hl377002_64]); refine ZS ?_; exact BK376.out⟩, ⟨by (try simp only [hl377001_64]); (try simp only [hl377002_64]); refine ZS ?_; exact BK385.out⟩, ⟨by (try simp only [hl377001_64]); (try simp only [hl377002_64]); refine ZS ?_; exact BK418.out⟩, ⟨ZB⟩⟩
            ·replace c126 := Bool.eq_false_iff.mpr c126
             subst c126
             have H1 : (laws_FnExactStepOfJacobi.j2 kj64 t399 true t377 t400 t401) = some r := by rw [if_neg (show ¬ (false = true) by decide)] at H; exact H
             clear H
             have H := H1
             clear H1
             have H' := Aside0.mk H
             clear H
             have hnb137 := NB418_351.out
             have hnc137 := NB351_418.out
             have hnb138 := NB418_368.out
             have hnc138 := NB368_418.out
             have hnb139 := NB418_376.out
             have hnc139 := NB376_418.out
             have hnb140 := NB418_385.out
             have hnc140 := NB385_418.out
             obtain ⟨hcz141_0, hcz141_1, hcz141_2, hfz141_0, hfz141_1, hfz141_2⟩ := ZD3 BK418
             have hnb142 := NB368_351.out
             have hnc142 := NB351_368.out
             have hnb143 := NB368_376.out
             have hnc143 := NB376_368.out
             have hnb144 := NB368_385.out
             have hnc144 := NB385_368.out
             obtain ⟨hcz145_0, hcz145_1, hcz145_2, hfz145_0, hfz145_1, hfz145_2⟩ := ZD3 BK368
             go_wp2_with (first | ((with_reducible refine gate_callee (f := 19) rfl ?_); refine goesL_ (some 86) rfl rfl Try.func19 (by kernel_rfl) rfl #[.agg #[.int .i64 t410, .slice Ao123 t411.length co123, .slice Ao124 t414.length co124], .agg #[.int .i64 t360, .slice Ao24 t361.length co24, .slice Ao25 t364.length co25]] rfl ZA ?_; (with_reducible refine (laws_eqJacobi.calls kj64 t410 _ _ t411 _ _ t414 t360 _ _ t361 _ _ t364 false _ ?side1 ?side2 ?side3 ?side4 ?side5 ?side6 ?side7 ?side8 A125.out).mono ?_); (case side1 => refine (Kd.R_reads' (e := 2) (base := w.heap.size) (ok := fun k_ => ((((((((some k_ ≠ (.slice Ao124 t414.length co124 : Value).ownBlock ∧ some k_ ≠ (.slice Ao24 t361.length co24 : Value).ownBlock) ∧ some k_ ≠ (.slice Ao25 t364.length co25 : Value).ownBlock) ∧ some k_ ≠ (.slice Ao32 t396.length co32 : Value).ownBlock) ∧ some k_ ≠ (.slice Ao33 t397.length co33 : Value).ownBlock) ∧ some k_ ≠ (.slice Ao40 t378.length co40 : Value).ownBlock) ∧ some k_ ≠ (.slice Ao41 t381.length co41 : Value).ownBlock) ∧ some k_ ≠ (.slice Ao114 t404.length co114 : Value).ownBlock) ∧ some k_ ≠ (.slice Ao115 t407.length co115 : Value).ownBlock)) (n := t411.length) (c := co123) ?_).2.2; exact (ZQ (ZF3 HO413 BK418 (.int .i64 t410) (.slice Ao123 t411.length co123) (.slice Ao124 t414.length co124)))); (case side2 => exact (Kd.R_reads' HO413.out).2.1); (case side3 => refine (Kd.R_reads' (e := 2) (base := w.heap.size) (ok := fun k_ => ((((((((some k_ ≠ (.slice Ao123 t411.length co123 : Value).ownBlock ∧ some k_ ≠ (.slice Ao24 t361.length co24 : Value).ownBlock) ∧ some k_ ≠ (.slice Ao25 t364.length co25 : Value).ownBlock) ∧ some k_ ≠ (.slice Ao32 t396.length co32 : Value).ownBlock) ∧ some k_ ≠ (.slice Ao33 t397.length co33 : Value).ownBlock) ∧ some k_ ≠ (.slice Ao40 t378.length co40 : Value).ownBlock) ∧ some k_ ≠ (.slice Ao41 t381.length co41 : Value).ownBlock) ∧ some k_ ≠ (.slice Ao114 t404.length co114 : Value).ownBlock) ∧ some k_ ≠ (.slice Ao115 t407.length co115 : Value).ownBlock)) (n := t414.length) (c := co124) ?_).2.2; exact (ZQ (ZF3 HO416 BK418 (.int .i64 t410) (.slice Ao123 t411.length co123) (.slice Ao124 t414.length co124)))); (case side4 => exact (Kd.R_reads' HO416.out).2.1); (case side5 => refine (Kd.R_reads' (e := 2) (base := w.heap.size) (ok := fun k_ => (((((some k_ ≠ (.slice Ao25 t364.length co25 : Value).ownBlock ∧ (some k_ ≠ (.slice Ao32 t396.length co32 : Value).ownBlock ∧ (some k_ ≠ (.slice Ao33 t397.length co33 : Value).ownBlock ∧ (some k_ ≠ (.slice Ao40 t378.length co40 : Value).ownBlock ∧ some k_ ≠ (.slice Ao41 t381.length co41 : Value).ownBlock)))) ∧ some k_ ≠ (.slice Ao114 t404.length co114 : Value).ownBlock) ∧ some k_ ≠ (.slice Ao115 t407.length co115 : Value).ownBlock) ∧ some k_ ≠ (.slice Ao123 t411.length co123 : Value).ownBlock) ∧ some k_ ≠ (.slice Ao124 t414.length co124 : Value).ownBlock)) (n := t361.length) (c := co24) ?_).2.2; exact (ZQ (ZF3 HO_369001 BK418 (.int .i64 t410) (.slice Ao123 t411.length co123) (.slice Ao124 t414.length co124)))); (case side6 => exact (Kd.R_reads' HO_369001.out).2.1); (case side7 => refine (Kd.R_reads' (e := 2) (base := w.heap.size) (ok := fun k_ => (((((some k_ ≠ (.slice Ao24 t361.length co24 : Value).ownBlock ∧ (some k_ ≠ (.slice Ao32 t396.length co32 : Value).ownBlock ∧ (some k_ ≠ (.slice Ao33 t397.length co33 : Value).ownBlock ∧ (some k_ ≠ (.slice Ao40 t378.length co40 : Value).ownBlock ∧ some k_ ≠ (.slice Ao41 t381.length co41 : Value).ownBlock)))) ∧ some k_ ≠ (.slice Ao114 t404.length co114 : Value).ownBlock) ∧ some k_ ≠ (.slice Ao115 t407.length co115 : Value).ownBlock) ∧ some k_ ≠ (.slice Ao123 t411.length co123 : Value).ownBlock) ∧ some k_ ≠ (.slice Ao124 t414.length co124 : Value).ownBlock)) (n := t364.length) (c := co25) ?_).2.2; exact (ZQ (ZF3 HO_369002 BK418 (.int .i64 t410) (.slice Ao123 t411.length co123) (.slice Ao124 t414.length co124)))); (case side8 => exact (Kd.R_reads' HO_369002.out).2.1); rintro e w146 ⟨rfl, hb⟩; refine ⟨_, rfl, ?_⟩; have n0_ := Aside0.mk (Kd.R_below (ZQ (ZF3 HO_369001 BK418 (.int .i64 t410) (.slice Ao123 t411.length co123) (.slice Ao124 t414.length co124))) hb); have n1_ := Aside0.mk (Kd.R_below (ZQ (ZF3 HO_369002 BK418 (.int .i64 t410) (.slice Ao123 t411.length co123) (.slice Ao124 t414.length co124))) hb); have n2_ := Aside0.mk (Kd.R_below (ZQ (ZF3 HO_377001 BK418 (.int .i64 t410) (.slice Ao123 t411.length co123) (.slice Ao124 t414.length co124))) hb); have n3_ := Aside0.mk (Kd.R_below (ZQ (ZF3 HO_377002 BK418 (.int .i64 t410) (.slice Ao123 t411.length co123) (.slice Ao124 t414.length co124))) hb); have n4_ := Aside0.mk (Kd.R_below (ZQ (ZF3 HO_386001 BK418 (.int .i64 t410) (.slice Ao123 t411.length co123) (.slice Ao124 t414.length co124))) hb); have n5_ := Aside0.mk (Kd.R_below (ZQ (ZF3 HO_386002 BK418 (.int .i64 t410) (.slice Ao123 t411.length co123) (.slice Ao124 t414.length co124))) hb); have n6_ := Aside0.mk (Kd.R_below (ZQ (ZF3 HO406 BK418 (.int .i64 t410) (.slice Ao123 t411.length co123) (.slice Ao124 t414.length co124))) hb); have n7_ := Aside0.mk (Kd.R_below (ZQ (ZF3 HO409 BK418 (.int .i64 t410) (.slice Ao123 t411.length co123) (.slice Ao124 t414.length co124))) hb); have n8_ := Aside0.mk (Kd.R_below (ZQ (ZF3 HO413 BK418 (.int .i64 t410) (.slice Ao123 t411.length co123) (.slice Ao124 t414.length co124))) hb); have n9_ := Aside0.mk (Kd.R_below (ZQ (ZF3 HO416 BK418 (.int .i64 t410) (.slice Ao123 t411.length co123) (.slice Ao124 t414.length co124))) hb); have n10_ := Aside0.mk (blk_below (g := gb351) (o := .cells #[.int .i64 a0_0, .slice A0_1 l0_1.length c0_1, .slice A0_2 l0_2.length c0_2] 24 (0, 0)) (by refine ZS ?_; refine blk_far ?_ NB351_418.out _; refine ZS ?_; refine blk_far ?_ NB351_418.out _; refine ZS ?_; refine blk_far ?_ NB351_418.out _; refine ZS ?_; exact BK351.out) hb); have n11_ := Aside0.mk (blk_below (g := gb368) (o := .cells #[.int .i64 t360, .slice Ao24 t361.length co24, .slice Ao25 t364.length co25] 29 (0, 0)) (by refine ZS ?_; refine blk_far ?_ NB368_418.out _; refine ZS ?_; refine blk_far ?_ NB368_418.out _; refine ZS ?_; refine blk_far ?_ NB368_418.out _; refine ZS ?_; exact BK368.out) hb); have n12_ := Aside0.mk (blk_below (g := gb376) (o := .cells #[.int .i64 t369, .slice Ao32 t396.length co32, .slice Ao33 t397.length co33] 29 (0, 0)) (by refine ZS ?_; refine blk_far ?_ NB376_418.out _; refine ZS ?_; refine blk_far ?_ NB376_418.out _; refine ZS ?_; refine blk_far ?_ NB376_418.out _; refine ZS ?_; exact BK376.out) hb); have n13_ := Aside0.mk (blk_below (g := gb385) (o := .cells #[.int .i64 t377, .slice Ao40 t378.length co40, .slice Ao41 t381.length co41] 29 (0, 0)) (by refine ZS ?_; refine blk_far ?_ NB385_418.out _; refine ZS ?_; refine blk_far ?_ NB385_418.out _; refine ZS ?_; refine blk_far ?_ NB385_418.out _; refine ZS ?_; exact BK385.out) hb); have n14_ := Aside0.mk (blk_below (g := gb418) (o := .cells #[.int .i64 t410, .slice Ao123 t411.length co123, .slice Ao124 t414.length co124] 29 (0, 0)) (by refine ZS ?_; refine blk_put (cs := #[.int .i64 t410, .slice Ao123 t411.length co123, .slice none 0 0]) ?_ 2 _ rfl; refine ZS ?_; refine blk_put (cs := #[.int .i64 t410, .slice none 0 0, .slice none 0 0]) ?_ 1 _ rfl; refine ZS ?_; refine blk_put (cs := #[.int .i64 0, .slice none 0 0, .slice none 0 0]) ?_ 0 _ rfl; refine ZS ?_; exact BK418.out) hb); have n15_ := Aside0.mk (below_step ZB hb); clear HO_369001; clear HO_369002; clear HO_377001; clear HO_377002; clear HO_386001; clear HO_386002; clear HO406; clear HO409; clear HO413; clear HO416; clear BK351; clear BK368; clear BK376; clear BK385; clear BK418; clear HB; have HO_369001 := n0_; have HO_369002 := n1_; have HO_377001 := n2_; have HO_377002 := n3_; have HO_386001 := n4_; have HO_386002 := n5_; have HO406 := n6_; have HO409 := n7_; have HO413 := n8_; have HO416 := n9_; have BK351 := n10_; have BK368 := n11_; have BK376 := n12_; have BK385 := n13_; have BK418 := n14_; have HB := n15_; clear n0_ n1_ n2_ n3_ n4_ n5_ n6_ n7_ n8_ n9_ n10_ n11_ n12_ n13_ n14_ n15_; (try clear hb); (try clear hb2); (try clear hk); (try clear hi)))
             go_meet
             case rel => exact ⟨_, (true), (by first | rfl | (simp; done) | (simp [*]; done)), H', ⟨by have := HJ11.out; have := HJ64.out; first | omega | exact Nat.le_refl _⟩, ⟨by (try simp only [hl377001_64]); (try simp only [hl377002_64]); refine ZQ ?_; exact Kd.R_mono HO_369001.out (fun _ hk => (And.intro (hk.1.1.1.1.1) ((And.intro (hk.1.1.1.1.2.1) ((And.intro (hk.1.1.1.1.2.2.1) ((And.intro (hk.1.1.1.1.2.2.2.1) ((And.intro (hk.1.1.1.1.2.2.2.2) ((And.intro (hk.1.2) (hk.2)))))))))))))⟩, ⟨by (try simp only [hl377001_64]); (try simp only [hl377002_64]); refine ZQ ?_; exact Kd.R_mono HO_369002.out (fun _ hk => (And.intro (hk.1.1.1.1.1) ((And.intro (hk.1.1.1.1.2.1) ((And.intro (hk.1.1.1.1.2.2.1) ((And.intro (hk.1.1.1.1.2.2.2.1) ((And.intro (hk.1.1.1.1.2.2.2.2) ((And.intro (hk.1.2) (hk.2)))))))))))))⟩, ⟨by (try simp only [hl377001_64]); (try simp only [hl377002_64]); refine ZQ ?_; exact Kd.R_mono HO_377001.out (fun _ hk => (And.intro (hk.1.1.1.1.1) ((And.intro (hk.1.1.1.1.2.1) ((And.intro (hk.1.1.1.1.2.2.1) ((And.intro (hk.1.1.1.1.2.2.2.1) ((And.intro (hk.1.1.1.1.2.2.2.2) ((And.intro (hk.1.2) (hk.2)))))))))))))⟩, ⟨by (try simp only [hl377001_64]); (try simp only [hl377002_64]); refine ZQ ?_; exact Kd.R_mono HO_377002.out (fun _ hk => (And.intro (hk.1.1.1.1.1) ((And.intro (hk.1.1.1.1.2.1) ((And.intro (hk.1.1.1.1.2.2.1) ((And.intro (hk.1.1.1.1.2.2.2.1) ((And.intro (hk.1.1.1.1.2.2.2.2) ((And.intro (hk.1.2) (hk.2)))))))))))))⟩, ⟨by (try simp only [hl377001_64]); (try simp only [hl377002_64]); refine ZQ ?_; exact Kd.R_mono HO_386001.out (fun _ hk => (And.intro (hk.1.1.1.1.1) ((And.intro (hk.1.1.1.1.2.1) ((And.intro (hk.1.1.1.1.2.2.1) ((And.intro (hk.1.1.1.1.2.2.2.1) ((And.intro (hk.1.1.1.1.2.2.2.2) ((And.intro (hk.1.2) (hk.2)))))))))))))⟩, ⟨by (try simp only [hl377001_64]); (try simp only [hl377002_64]); refine ZQ ?_; exact Kd.R_mono HO_386002.out (fun _ hk => (And.intro (hk.1.1.1.1.1) ((And.intro (hk.1.1.1.1.2.1) ((And.intro (hk.1.1.1.1.2.2.1) ((And.intro (hk.1.1.1.1.2.2.2.1) ((And.intro (hk.1.1.1.1.2.2.2.2) ((And.intro (hk.1.2) (hk.2)))))))))))))⟩, ⟨by (try simp only [hl377001_64]); (try simp only [hl377002_64]); refine ZQ ?_; exact Kd.R_mono HO413.out (fun _ hk => (And.intro (hk.1.1.1.1.1.1.1.2) ((And.intro (hk.1.1.1.1.1.1.2) ((And.intro (hk.1.1.1.1.1.2) ((And.intro (hk.1.1.1.1.2) ((And.intro (hk.1.1.1.2) ((And.intro (hk.1.1.2) (hk.1.1.1.1.1.1.1.1)))))))))))))⟩, ⟨by (try simp only [hl377001_64]); (try simp only [hl377002_64]); refine ZQ ?_; exact Kd.R_mono HO416.out (fun _ hk => (And.intro (hk.1.1.1.1.1.1.1.2) ((And.intro (hk.1.1.1.1.1.1.2) ((And.intro (hk.1.1.1.1.1.2) ((And.intro (hk.1.1.1.1.2) ((And.intro (hk.1.1.1.2) ((And.intro (hk.1.1.2) (hk.1.1.1.1.1.1.1.1)))))))))))))⟩, ⟨by (try simp only [hl377001_64]); (try simp only [hl377002_64]); refine ZS ?_; exact BK351.out⟩, ⟨by (try simp only [hl377001_64]); (try simp only [hl377002_64]); refine ZS ?_; exact BK368.out⟩, ⟨by (try simp only [hl377001_64]); (try simp only [hl377002_64]); refine ZS ?_; exact BK376.out⟩, ⟨by (try simp only [hl377001_64]); (try simp only [hl377002_64]); refine ZS ?_; exact BK385.out⟩, ⟨by (try simp only [hl377001_64]); (try simp only [hl377002_64]); refine ZS ?_; exact BK418.out⟩, ⟨ZB⟩⟩
           case rest =>
            clear HC102
            try clear c1
            try clear c2
            try clear p2
            try clear c3
            try clear c4
            try clear c4b0
            try clear c5
            try clear c6
            try clear c7
            try clear c8
            try clear c9
            try clear c10
            try clear c11
            try clear c12
            try clear c13
            try clear c14
            try clear c16
            try clear c19
            try clear c20
            try clear c22
            try clear c23
            try clear c24
            try clear c25
            try clear c29
            try clear c30
            try clear c36
            try clear c37
            try clear c38
            try clear c43
            try clear c44
            try clear c45
            try clear c46
            try clear c48
            try clear c49
            try clear c52
            try clear c53
            try clear c54
            try clear c56
            try clear c57
            try clear c60
            try clear c63
            try clear c71
            try clear c72
            try clear c73
            try clear c76
            try clear c76b0
            try clear c78
            try clear c79
            try clear c80
            try clear c81
            try clear c83
            try clear c84
            try clear c87
            try clear c88
            try clear c89
            try clear c91
            try clear c92
            try clear c95
            try clear c98
            try clear c98b0
            try clear c99
            try clear c99b0
            try clear c99b1
            try clear c103
            try clear c104
            try clear c105
            try clear c110
            try clear c111
            try clear c118
            try clear c119
            try clear c120
            try clear c121
            try clear c126
            try clear c127
            try clear c128
            try clear c129
            try clear c130
            try clear c132
            try clear c133
            try clear c134
            try clear c137
            try clear c138
            try clear c139
            try clear c140
            try clear c142
            try clear c143
            try clear c144
            try clear hcz106_0
            try clear hcz106_1
            try clear hcz106_2
            try clear hcz108_0
            try clear hcz108_1
            try clear hcz108_2
            try clear hcz112_0
            try clear hcz112_1
            try clear hcz112_2
            try clear hcz122_0
            try clear hcz122_1
            try clear hcz122_2
            try clear hcz131_0
            try clear hcz131_1
            try clear hcz131_2
            try clear hcz135_0
            try clear hcz135_1
            try clear hcz135_2
            try clear hcz141_0
            try clear hcz141_1
            try clear hcz141_2
            try clear hcz145_0
            try clear hcz145_1
            try clear hcz145_2
            try clear hcz14_0
            try clear hcz14_1
            try clear hcz14_2
            try clear hcz16_0
            try clear hcz16_1
            try clear hcz16_2
            try clear hcz23_0
            try clear hcz23_1
            try clear hcz23_2
            try clear hcz26_0
            try clear hcz26_1
            try clear hcz26_2
            try clear hcz31_0
            try clear hcz31_1
            try clear hcz31_2
            try clear hcz39_0
            try clear hcz39_1
            try clear hcz39_2
            try clear hcz47_0
            try clear hcz47_1
            try clear hcz47_2
            try clear hcz50_0
            try clear hcz50_1
            try clear hcz50_2
            try clear hcz55_0
            try clear hcz55_1
            try clear hcz55_2
            try clear hcz58_0
            try clear hcz58_1
            try clear hcz58_2
            try clear hcz6_0
            try clear hcz6_1
            try clear hcz6_2
            try clear hcz74_0
            try clear hcz74_1
            try clear hcz74_2
            try clear hcz82_0
            try clear hcz82_1
            try clear hcz82_2
            try clear hcz85_0
            try clear hcz85_1
            try clear hcz85_2
            try clear hcz90_0
            try clear hcz90_1
            try clear hcz90_2
            try clear hcz93_0
            try clear hcz93_1
            try clear hcz93_2
            try clear hfz106_0
            try clear hfz106_1
            try clear hfz106_2
            try clear hfz108_0
            try clear hfz108_1
            try clear hfz108_2
            try clear hfz112_0
            try clear hfz112_1
            try clear hfz112_2
            try clear hfz122_0
            try clear hfz122_1
            try clear hfz122_2
            try clear hfz131_0
            try clear hfz131_1
            try clear hfz131_2
            try clear hfz135_0
            try clear hfz135_1
            try clear hfz135_2
            try clear hfz141_0
            try clear hfz141_1
            try clear hfz141_2
            try clear hfz145_0
            try clear hfz145_1
            try clear hfz145_2
            try clear hfz14_0
            try clear hfz14_1
            try clear hfz14_2
            try clear hfz16_0
            try clear hfz16_1
            try clear hfz16_2
            try clear hfz23_0
            try clear hfz23_1
            try clear hfz23_2
            try clear hfz26_0
            try clear hfz26_1
            try clear hfz26_2
            try clear hfz31_0
            try clear hfz31_1
            try clear hfz31_2
            try clear hfz39_0
            try clear hfz39_1
            try clear hfz39_2
            try clear hfz47_0
            try clear hfz47_1
            try clear hfz47_2
            try clear hfz50_0
            try clear hfz50_1
            try clear hfz50_2
            try clear hfz55_0
            try clear hfz55_1
            try clear hfz55_2
            try clear hfz58_0
            try clear hfz58_1
            try clear hfz58_2
            try clear hfz6_0
            try clear hfz6_1
            try clear hfz6_2
            try clear hfz74_0
            try clear hfz74_1
            try clear hfz74_2
            try clear hfz82_0
            try clear hfz82_1
            try clear hfz82_2
            try clear hfz85_0
            try clear hfz85_1
            try clear hfz85_2
            try clear hfz90_0
            try clear hfz90_1
            try clear hfz90_2
            try clear hfz93_0
            try clear hfz93_1
            try clear hfz93_2
            try clear p2
            obtain ⟨kq, x92_101, rfl, HA, HJ101, HO_369001, HO_369002, HO_377001, HO_377002, HO_386001, HO_386002, HO_419001, HO_419002, BK351, BK368, BK376, BK385, BK418, HB⟩ := hcut
            have hl386001_101 := (Kd.R_reads' HO_386001.out).1
            rw [hl386001_101] at HO_386001
            (try simp only [hl386001_101])
            (try simp only [hl386001_101] at BK351)
            (try simp only [hl386001_101] at BK368)
            (try simp only [hl386001_101] at BK376)
            (try simp only [hl386001_101] at BK385)
            (try simp only [hl386001_101] at BK418)
            (try simp only [hl386001_101] at HO_369001)
            (try simp only [hl386001_101] at HO_369002)
            (try simp only [hl386001_101] at HO_377001)
            (try simp only [hl386001_101] at HO_377002)
            (try simp only [hl386001_101] at HO_386002)
            (try simp only [hl386001_101] at HO_419001)
            (try simp only [hl386001_101] at HO_419002)
            have hl386002_101 := (Kd.R_reads' HO_386002.out).1
            rw [hl386002_101] at HO_386002
            (try simp only [hl386002_101])
            (try simp only [hl386002_101] at BK351)
            (try simp only [hl386002_101] at BK368)
            (try simp only [hl386002_101] at BK376)
            (try simp only [hl386002_101] at BK385)
            (try simp only [hl386002_101] at BK418)
            (try simp only [hl386002_101] at HO_369001)
            (try simp only [hl386002_101] at HO_369002)
            (try simp only [hl386002_101] at HO_377001)
            (try simp only [hl386002_101] at HO_377002)
            (try simp only [hl386002_101] at HO_386001)
            (try simp only [hl386002_101] at HO_419001)
            (try simp only [hl386002_101] at HO_419002)
            cases kq with
            | zero => exact absurd HA.out (by simp [laws_FnExactStepOfJacobi.j2])
            | succ kj101 =>
             have H := HA.out
             clear HA
             simp only [laws_FnExactStepOfJacobi.j2] at H
             by_cases c147 : x92_101 = true
             ·subst c147
              have H1 : (some false) = some r := by rw [if_pos rfl] at H; exact H
              clear H
              have H := H1
              clear H1
              exact absurd (H.trans (congrArg some hT.out)) (by simp)
             ·replace c147 := Bool.eq_false_iff.mpr c147
              subst c147
              have H1 : ((laws_heldJacobi.f kj101 t377 t400 t401 1).bind fun t420 => (if t420 < 0 then (some false) else (if t420 = t399 then (some true) else (some false)))) = some r := by rw [if_neg (show ¬ (false = true) by decide)] at H; exact H
              clear H
              have H := H1
              clear H1
              replace H := Option.bind_eq_some_iff.mp H
              obtain ⟨t420, A1480, H⟩ := H
              replace H : (if t420 < 0 then (some false) else (if t420 = t399 then (some true) else (some false))) = some r := H
              have A148 := Aside0.mk A1480
              clear A1480
              by_cases c149 : t420 < 0
              ·rw [if_pos c149] at H
               have c149b0 : decide (t420 < 0) = true := decide_eq_true c149
               clear c149
               exact absurd (H.trans (congrArg some hT.out)) (by simp)
              ·rw [if_neg c149] at H
               have c149b0 : decide (t420 < 0) = false := decide_eq_false c149
               clear c149
               by_cases c150 : t420 = t399
               ·rw [if_pos c150] at H
                have c150b0 : (t420 == t399) = true := beq_iff_eq.mpr c150
                have c150b1 : (t420 != t399) = false := bne_eq_false_iff_eq.mpr c150
                clear c150
                obtain rfl := Option.some.inj H
                have hnb151 := NB385_351.out
                have hnc151 := NB351_385.out
                have hnb152 := NB385_368.out
                have hnc152 := NB368_385.out
                have hnb153 := NB385_376.out
                have hnc153 := NB376_385.out
                have hnb154 := NB385_418.out
                have hnc154 := NB418_385.out
                obtain ⟨hcz155_0, hcz155_1, hcz155_2, hfz155_0, hfz155_1, hfz155_2⟩ := ZD3 BK385
                go_wp2_with (first | ((with_reducible refine gate_callee (f := 25) rfl ?_); refine goesL_ (some 95) rfl rfl Try.func25 (by kernel_rfl) rfl #[.agg #[.int .i64 t377, .slice Ao40 t400.length co40, .slice Ao41 t401.length co41], .int .i64 1] rfl ZA ?_; (with_reducible refine (laws_heldJacobi.calls kj101 t377 _ _ t400 _ _ t401 1 t420 _ ?side1 ?side2 ?side3 ?side4 A148.out).mono ?_); (case side1 => repeat (first | exact (Kd.R_reads' HO_386001.out).2.2 | (with_reducible refine Kd.C_alloc ?_ _) | (with_reducible refine Kd.C_drewN ?_ _) | (with_reducible refine Kd.C_drew ?_))); (case side2 => exact (Kd.R_reads' HO_386001.out).2.1); (case side3 => repeat (first | exact (Kd.R_reads' HO_386002.out).2.2 | (with_reducible refine Kd.C_alloc ?_ _) | (with_reducible refine Kd.C_drewN ?_ _) | (with_reducible refine Kd.C_drew ?_))); (case side4 => exact (Kd.R_reads' HO_386002.out).2.1); rintro e w156 ⟨rfl, hb⟩; refine ⟨_, rfl, ?_⟩; have n0_ := Aside0.mk (Kd.R_below (ZR HO_369001) hb); have n1_ := Aside0.mk (Kd.R_below (ZR HO_369002) hb); have n2_ := Aside0.mk (Kd.R_below (ZR HO_377001) hb); have n3_ := Aside0.mk (Kd.R_below (ZR HO_377002) hb); have n4_ := Aside0.mk (Kd.R_below (ZR HO_386001) hb); have n5_ := Aside0.mk (Kd.R_below (ZR HO_386002) hb); have n6_ := Aside0.mk (Kd.R_below (ZR HO_419001) hb); have n7_ := Aside0.mk (Kd.R_below (ZR HO_419002) hb); have n8_ := ZL BK351 hb; have n9_ := ZL BK368 hb; have n10_ := ZL BK376 hb; have n11_ := ZL BK385 hb; have n12_ := ZL BK418 hb; have n13_ := Aside0.mk (below_step ZB hb); clear HO_369001; clear HO_369002; clear HO_377001; clear HO_377002; clear HO_386001; clear HO_386002; clear HO_419001; clear HO_419002; clear BK351; clear BK368; clear BK376; clear BK385; clear BK418; clear HB; have HO_369001 := n0_; have HO_369002 := n1_; have HO_377001 := n2_; have HO_377002 := n3_; have HO_386001 := n4_; have HO_386002 := n5_; have HO_419001 := n6_; have HO_419002 := n7_; have BK351 := n8_; have BK368 := n9_; have BK376 := n10_; have BK385 := n11_; have BK418 := n12_; have HB := n13_; clear n0_ n1_ n2_ n3_ n4_ n5_ n6_ n7_ n8_ n9_ n10_ n11_ n12_ n13_; (try clear hb); (try clear hb2); (try clear hk); (try clear hi)))
                go_ret
                exact ⟨by first | rfl | (simp [errW_none, errW_some] <;> rfl) | (simp [*, errW_none, errW_some] <;> rfl), ZB⟩
               ·rw [if_neg c150] at H
                have c150b0 : (t420 == t399) = false := beq_eq_false_iff_ne.mpr c150
                have c150b1 : (t420 != t399) = true := bne_iff_ne.mpr c150
                exact absurd (H.trans (congrArg some hT.out)) (by simp)
          ·rw [if_neg c99] at H
           have c99b0 : (t402 == t399) = false := beq_eq_false_iff_ne.mpr c99
           have c99b1 : (t402 != t399) = true := bne_iff_ne.mpr c99
           exact absurd (H.trans (congrArg some hT.out)) (by simp)
     ·replace c63 := Bool.eq_false_iff.mpr c63
      subst c63
      have H1 : (some false) = some r := by rw [if_neg (show ¬ (false = true) by decide)] at H; exact H
      clear H
      have H := H1
      clear H1
      exact absurd (H.trans (congrArg some hT.out)) (by simp)

end Go.Proofs.Ytaclapojgdekpaa.X
