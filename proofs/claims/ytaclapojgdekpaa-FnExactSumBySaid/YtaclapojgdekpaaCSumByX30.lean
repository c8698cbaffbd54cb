/- Contracts of functions that the law reaches, printed by a program of this session; Lean checks them. -/
import Derived.Test.YtaclapojgdekpaaCSumByX0
import Derived.Test.YtaclapojgdekpaaCSumByX1
import Derived.Test.YtaclapojgdekpaaCSumByX28
import Derived.Test.YtaclapojgdekpaaCSumByX29
import Derived.Test.YtaclapojgdekpaaCSumByX5
import Derived.Test.YtaclapojgdekpaaCSumByX7
import Derived.Test.YtaclapojgdekpaaCSumByXZ
namespace Go.Proofs.Ytaclapojgdekpaa.X
open Go.RowKit Go.Proofs.YtaclapojgdekpaaW.PrintWords Go.Proofs.YtaclapojgdekpaaW.PrintLast Go.Proofs.YtaclapojgdekpaaW.PrintMore
attribute [local go_sem] max2_int min2_int max_two min_two max_three min_three max_four min_four   -- for this text's walks alone
set_option linter.unusedVariables false
set_option linter.unusedSimpArgs false

/-! ### laws_FnExactSumBy: function 9 -/
mutual
def laws_FnExactSumBy.j0 : Nat → List Int → List Int → Int → List Int → List Int → Int → Bool → Int → List Int → List Int → Int → List Int → List Int → Option (Bool)
 | 0, _, _, _, _, _, _, _, _, _, _, _, _, _ => none
 | k + 1, x1, x6, x7, x9, x10, x11, x51, x951000, x951001, x951002, x974000, x974001, x974002 => if x51 = true then (some false) else ((laws_toJacobi.f k x951000 x951001 x951002).bind fun bt982 => ((laws_eqJacobi.f k x974000 x974001 x974002 bt982.1 bt982.2.1 bt982.2.2).bind fun t989 => (if t989 = true then ((laws_toInt64S.f k x1).bind fun t990 => ((laws_eqInt64S.f k x9 t990).bind fun t993 => (if t993 = true then ((laws_markJacobi.f k x974000 x974001 x974002 1).bind fun bt994 => ((laws_markInt64S.f k x9 bt994.1).bind fun bt997 => (if bt997.1 < 0 then (laws_FnExactSumBy.j1 k x1 x6 x7 x10 true x951000 x951001 x951002) else ((laws_eqInt64S.f k x10 x6).bind fun t999 => (if t999 = true then (laws_FnExactSumBy.j1 k x1 x6 x7 x10 (x11 != x7) x951000 x951001 x951002) else (laws_FnExactSumBy.j1 k x1 x6 x7 x10 true x951000 x951001 x951002)))))) else (some false)))) else (some false))))
def laws_FnExactSumBy.j1 : Nat → List Int → List Int → Int → List Int → Bool → Int → List Int → List Int → Option (Bool)
 | 0, _, _, _, _, _, _, _, _ => none
 | k + 1, x1, x6, x7, x10, x80, x951000, x951001, x951002 => if x80 = true then (some false) else ((laws_markInt64S.f k x10 1).bind fun bt1000 => ((laws_heldInt64S.f k bt1000.2 1).bind fun t1002 => (if t1002 < 0 then (some false) else (if t1002 = bt1000.1 then ((laws_toJacobi.f k x951000 x951001 x951002).bind fun bt1003 => ((laws_toInt64S.f k x1).bind fun t1010 => ((impl_SumBy.f k bt1003.1 bt1003.2.1 bt1003.2.2 t1010).bind fun bt1013 => ((laws_eqInt64S.f k bt1013.1 x6).bind fun t1017 => (if t1017 = true then (laws_FnExactSumBy.j2 k bt1000.2 bt1000.1 (bt1013.2 != x7)) else (laws_FnExactSumBy.j2 k bt1000.2 bt1000.1 true)))))) else (some false)))))
def laws_FnExactSumBy.j2 : Nat → List Int → Int → Bool → Option (Bool)
 | 0, _, _, _ => none
 | k + 1, x10, x13, x108 => if x108 = true then (some false) else ((laws_heldInt64S.f k x10 1).bind fun t1018 => (if t1018 < 0 then (some false) else (if t1018 = x13 then (some true) else (some false))))
end
def laws_FnExactSumBy.f (k : Nat) (a0_0 : Int) (l0_1 : List Int) (l0_2 : List Int) (l1 : List Int) : Option (Bool) := if (l1.length : Int) > 1048576 then (some true) else ((laws_szJacobi.f a0_0 l0_1 l0_2 1048576).bind fun t951 => (if t951 < 0 then (some true) else ((laws_toJacobi.f k a0_0 l0_1 l0_2).bind fun bt952 => ((laws_toInt64S.f k l1).bind fun t959 => ((spec_SumBy.f k bt952.1 bt952.2.1 bt952.2.2 t959).bind fun bt962 => ((laws_toJacobi.f k a0_0 l0_1 l0_2).bind fun bt966 => ((laws_toInt64S.f k l1).bind fun t974 => ((impl_SumBy.f k bt966.1 bt966.2.1 bt966.2.2 t974).bind fun bt977 => ((laws_eqInt64S.f k bt977.1 bt962.1).bind fun t981 => (if t981 = true then (laws_FnExactSumBy.j0 k l1 bt962.1 bt962.2 t974 bt977.1 bt977.2 (bt977.2 != bt962.2) a0_0 l0_1 l0_2 bt966.1 bt966.2.1 bt966.2.2) else (laws_FnExactSumBy.j0 k l1 bt962.1 bt962.2 t974 bt977.1 bt977.2 true a0_0 l0_1 l0_2 bt966.1 bt966.2.1 bt966.2.2)))))))))))
theorem laws_FnExactSumBy.mono_l : ∀ k, (∀ y0 y1 y2 y3 y4 y5 y6 y7 y8 y9 y10 y11 y12, LeO (laws_FnExactSumBy.j0 k y0 y1 y2 y3 y4 y5 y6 y7 y8 y9 y10 y11 y12) (laws_FnExactSumBy.j0 (k + 1) y0 y1 y2 y3 y4 y5 y6 y7 y8 y9 y10 y11 y12)) ∧ (∀ y0 y1 y2 y3 y4 y5 y6 y7, LeO (laws_FnExactSumBy.j1 k y0 y1 y2 y3 y4 y5 y6 y7) (laws_FnExactSumBy.j1 (k + 1) y0 y1 y2 y3 y4 y5 y6 y7)) ∧ (∀ y0 y1 y2, LeO (laws_FnExactSumBy.j2 k y0 y1 y2) (laws_FnExactSumBy.j2 (k + 1) y0 y1 y2))
 | 0 => ⟨fun _ _ _ _ _ _ _ _ _ _ _ _ _ r h => by simp [laws_FnExactSumBy.j0] at h, fun _ _ _ _ _ _ _ _ r h => by simp [laws_FnExactSumBy.j1] at h, fun _ _ _ r h => by simp [laws_FnExactSumBy.j2] at h⟩
 | k + 1 => by
  obtain ⟨ih0, ih1, ih2⟩ := laws_FnExactSumBy.mono_l k
  refine ⟨?_, ?_, ?_⟩
  ·intro y0 y1 y2 y3 y4 y5 y6 y7 y8 y9 y10 y11 y12
   unfold laws_FnExactSumBy.j0
   repeat' first
   | (with_reducible exact ih0 _ _ _ _ _ _ _ _ _ _ _ _ _)
   | (with_reducible exact ih1 _ _ _ _ _ _ _ _)
   | (with_reducible exact ih2 _ _ _)
   | (with_reducible exact impl_SumBy.mono _ _ _ _ _)
   | (with_reducible exact laws_eqInt64S.mono _ _ _)
   | (with_reducible exact laws_eqJacobi.mono _ _ _ _ _ _ _)
   | (with_reducible exact laws_heldInt64S.mono _ _ _)
   | (with_reducible exact laws_markInt64S.mono _ _ _)
   | (with_reducible exact laws_markJacobi.mono _ _ _ _ _)
   | (with_reducible exact laws_toInt64S.mono _ _)
   | (with_reducible exact laws_toJacobi.mono _ _ _ _)
   | (with_reducible exact spec_SumBy.mono _ _ _ _ _)
   | (with_reducible exact LeO.refl _)
   | (with_reducible exact LeO.none _)
   | (with_reducible refine LeO.ite ?_ ?_)
   | (with_reducible refine LeO.bind ?_ (fun _ => ?_))
   | exact ih0 _ _ _ _ _ _ _ _ _ _ _ _ _
   | exact ih1 _ _ _ _ _ _ _ _
   | exact ih2 _ _ _
   | exact impl_SumBy.mono _ _ _ _ _
   | exact laws_eqInt64S.mono _ _ _
   | exact laws_eqJacobi.mono _ _ _ _ _ _ _
   | exact laws_heldInt64S.mono _ _ _
   | exact laws_markInt64S.mono _ _ _
   | exact laws_markJacobi.mono _ _ _ _ _
   | exact laws_toInt64S.mono _ _
   | exact laws_toJacobi.mono _ _ _ _
   | exact spec_SumBy.mono _ _ _ _ _
   | exact LeO.none _
   | refine LeO.ite ?_ ?_
   | refine LeO.bind ?_ (fun _ => ?_)
  ·intro y0 y1 y2 y3 y4 y5 y6 y7
   unfold laws_FnExactSumBy.j1
   repeat' first
   | (with_reducible exact ih0 _ _ _ _ _ _ _ _ _ _ _ _ _)
   | (with_reducible exact ih1 _ _ _ _ _ _ _ _)
   | (with_reducible exact ih2 _ _ _)
   | (with_reducible exact impl_SumBy.mono _ _ _ _ _)
   | (with_reducible exact laws_eqInt64S.mono _ _ _)
   | (with_reducible exact laws_eqJacobi.mono _ _ _ _ _ _ _)
   | (with_reducible exact laws_heldInt64S.mono _ _ _)
   | (with_reducible exact laws_markInt64S.mono _ _ _)
   | (with_reducible exact laws_markJacobi.mono _ _ _ _ _)
   | (with_reducible exact laws_toInt64S.mono _ _)
   | (with_reducible exact laws_toJacobi.mono _ _ _ _)
   | (with_reducible exact spec_SumBy.mono _ _ _ _ _)
   | (with_reducible exact LeO.refl _)
   | (with_reducible exact LeO.none _)
   | (with_reducible refine LeO.ite ?_ ?_)
   | (with_reducible refine LeO.bind ?_ (fun _ => ?_))
   | exact ih0 _ _ _ _ _ _ _ _ _ _ _ _ _
   | exact ih1 _ _ _ _ _ _ _ _
   | exact ih2 _ _ _
   | exact impl_SumBy.mono _ _ _ _ _
   | exact laws_eqInt64S.mono _ _ _
   | exact laws_eqJacobi.mono _ _ _ _ _ _ _
   | exact laws_heldInt64S.mono _ _ _
   | exact laws_markInt64S.mono _ _ _
   | exact laws_markJacobi.mono _ _ _ _ _
   | exact laws_toInt64S.mono _ _
   | exact laws_toJacobi.mono _ _ _ _
   | exact spec_SumBy.mono _ _ _ _ _
   | exact LeO.none _
   | refine LeO.ite ?_ ?_
   | refine LeO.bind ?_ (fun _ => ?_)
  ·intro y0 y1 y2
   unfold laws_FnExactSumBy.j2
   repeat' first
   | (with_reducible exact ih0 _ _ _ _ _ _ _ _ _ _ _ _ _)
   | (with_reducible exact ih1 _ _ _ _ _ _ _ _)
   | (with_reducible exact ih2 _ _ _)
   | (with_reducible exact impl_SumBy.mono _ _ _ _ _)
   | (with_reducible exact laws_eqInt64S.mono _ _ _)
   | (with_reducible exact laws_eqJacobi.mono _ _ _ _ _ _ _)
   | (with_reducible exact laws_heldInt64S.mono _ _ _)
   | (with_reducible exact laws_markInt64S.mono _ _ _)
   | (with_reducible exact laws_markJacobi.mono _ _ _ _ _)
   | (with_reducible exact laws_toInt64S.mono _ _)
   | (with_reducible exact laws_toJacobi.mono _ _ _ _)
   | (with_reducible exact spec_SumBy.mono _ _ _ _ _)
   | (with_reducible exact LeO.refl _)
   | (with_reducible exact LeO.none _)
   | (with_reducible refine LeO.ite ?_ ?_)
   | (with_reducible refine LeO.bind ?_ (fun _ => ?_))
   | exact ih0 _ _ _ _ _ _ _ _ _ _ _ _ _
   | exact ih1 _ _ _ _ _ _ _ _
   | exact ih2 _ _ _
   | exact impl_SumBy.mono _ _ _ _ _
   | exact laws_eqInt64S.mono _ _ _
   | exact laws_eqJacobi.mono _ _ _ _ _ _ _
   | exact laws_heldInt64S.mono _ _ _
   | exact laws_markInt64S.mono _ _ _
   | exact laws_markJacobi.mono _ _ _ _ _
   | exact laws_toInt64S.mono _ _
   | exact laws_toJacobi.mono _ _ _ _
   | exact spec_SumBy.mono _ _ _ _ _
   | exact LeO.none _
   | refine LeO.ite ?_ ?_
   | refine LeO.bind ?_ (fun _ => ?_)
theorem laws_FnExactSumBy.mono : ∀ a0 a1 a2 a3 k, LeO (laws_FnExactSumBy.f k a0 a1 a2 a3) (laws_FnExactSumBy.f (k + 1) a0 a1 a2 a3) := by
 intro a0 a1 a2 a3 k
 obtain ⟨ih0, ih1, ih2⟩ := laws_FnExactSumBy.mono_l k
 unfold laws_FnExactSumBy.f
 repeat' first
   | (with_reducible exact ih0 _ _ _ _ _ _ _ _ _ _ _ _ _)
   | (with_reducible exact ih1 _ _ _ _ _ _ _ _)
   | (with_reducible exact ih2 _ _ _)
   | (with_reducible exact impl_SumBy.mono _ _ _ _ _)
   | (with_reducible exact laws_eqInt64S.mono _ _ _)
   | (with_reducible exact laws_eqJacobi.mono _ _ _ _ _ _ _)
   | (with_reducible exact laws_heldInt64S.mono _ _ _)
   | (with_reducible exact laws_markInt64S.mono _ _ _)
   | (with_reducible exact laws_markJacobi.mono _ _ _ _ _)
   | (with_reducible exact laws_toInt64S.mono _ _)
   | (with_reducible exact laws_toJacobi.mono _ _ _ _)
   | (with_reducible exact spec_SumBy.mono _ _ _ _ _)
   | (with_reducible exact LeO.refl _)
   | (with_reducible exact LeO.none _)
   | (with_reducible refine LeO.ite ?_ ?_)
   | (with_reducible refine LeO.bind ?_ (fun _ => ?_))
   | exact ih0 _ _ _ _ _ _ _ _ _ _ _ _ _
   | exact ih1 _ _ _ _ _ _ _ _
   | exact ih2 _ _ _
   | exact impl_SumBy.mono _ _ _ _ _
   | exact laws_eqInt64S.mono _ _ _
   | exact laws_eqJacobi.mono _ _ _ _ _ _ _
   | exact laws_heldInt64S.mono _ _ _
   | exact laws_markInt64S.mono _ _ _
   | exact laws_markJacobi.mono _ _ _ _ _
   | exact laws_toInt64S.mono _ _
   | exact laws_toJacobi.mono _ _ _ _
   | exact spec_SumBy.mono _ _ _ _ _
   | exact LeO.none _
   | refine LeO.ite ?_ ?_
   | refine LeO.bind ?_ (fun _ => ?_)
set_option maxHeartbeats 8000000 in
set_option maxRecDepth 100000 in
theorem laws_FnExactSumBy.calls (k : Nat) (a0_0 : Int) (A0_1 : Option Addr) (c0_1 : Nat) (l0_1 : List Int) (A0_2 : Option Addr) (c0_2 : Nat) (l0_2 : List Int) (A1 : Option Addr) (c1 : Nat) (l1 : List Int) (r : Bool) (w : World) (hr0_1 : Kd.C (Kd.int .i64) w A0_1 l0_1.length l0_1) (hc0_1 : l0_1.length ≤ c0_1) (hr0_2 : Kd.C (Kd.int .i64) w A0_2 l0_2.length l0_2) (hc0_2 : l0_2.length ≤ c0_2) (hr1 : Kd.C (Kd.int .i64) w A1 l1.length l1) (hc1 : l1.length ≤ c1) (hT : Aside0 (r = true)) (h : laws_FnExactSumBy.f k a0_0 l0_1 l0_2 l1 = some r) :
  Calls Try.prog 9 #[.agg #[.int .i64 a0_0, .slice A0_1 l0_1.length c0_1, .slice A0_2 l0_2.length c0_2], .slice A1 l1.length c1] w fun e w' => e = .returned (.bool r) ∧ Below w.heap.size w w' := by
 have hu24 := Try.underlying24
 have hu29 := Try.underlying29
 have HR0_1 := Aside0.mk hr0_1
 have HC0_1 := Aside0.mk hc0_1
 clear hr0_1 hc0_1
 have HR0_2 := Aside0.mk hr0_2
 have HC0_2 := Aside0.mk hc0_2
 clear hr0_2 hc0_2
 have HR1 := Aside0.mk hr1
 have HC1 := Aside0.mk hc1
 clear hr1 hc1
 have HB := Aside0.mk (Below.refl w.heap.size w)
 have H : (if (l1.length : Int) > 1048576 then (some true) else ((laws_szJacobi.f a0_0 l0_1 l0_2 1048576).bind fun t951 => (if t951 < 0 then (some true) else ((laws_toJacobi.f k a0_0 l0_1 l0_2).bind fun bt952 => ((laws_toInt64S.f k l1).bind fun t959 => ((spec_SumBy.f k bt952.1 bt952.2.1 bt952.2.2 t959).bind fun bt962 => ((laws_toJacobi.f k a0_0 l0_1 l0_2).bind fun bt966 => ((laws_toInt64S.f k l1).bind fun t974 => ((impl_SumBy.f k bt966.1 bt966.2.1 bt966.2.2 t974).bind fun bt977 => ((laws_eqInt64S.f k bt977.1 bt962.1).bind fun t981 => (if t981 = true then (laws_FnExactSumBy.j0 k l1 bt962.1 bt962.2 t974 bt977.1 bt977.2 (bt977.2 != bt962.2) a0_0 l0_1 l0_2 bt966.1 bt966.2.1 bt966.2.2) else (laws_FnExactSumBy.j0 k l1 bt962.1 bt962.2 t974 bt977.1 bt977.2 true a0_0 l0_1 l0_2 bt966.1 bt966.2.1 bt966.2.2)))))))))))) = some r := h
 clear h
 by_cases c3 : (l1.length : Int) > 1048576
 ·rw [if_pos c3] at H
  have c3b0 : decide (1048576 < (l1.length : Int)) = true := decide_eq_true c3
  have c3b1 : decide (1048576 < l1.length) = true := decide_eq_true (by omega)
  clear c3
  obtain rfl := Option.some.inj H
  go_enter Try.func9, Try.ntmps9
  go_wp2_with (first | ((with_reducible refine gate_dst (N := 2) rfl ?_); refine box_event ?hg (N := 2) ?hd (cs := #[.int .i64 a0_0, .slice A0_1 l0_1.length c0_1, .slice A0_2 l0_2.length c0_2]) (t := 24) ?hr ?_; (case hd => rfl); (case hg => rfl); (case hr => first | (go_simp; done) | (go_simp; rfl)); intro gb950 hg w4 hbox hb; have n0_ := Aside0.mk (below_step ZB hb); have n1_ := Aside0.mk (hbox); have n2_ := Aside0.mk ((ZG hg : w.heap.size ≤ gb950)); have n3_ := Aside0.mk ((ZG hg : w.heap.size ≤ gb950)); clear HB; have HB := n0_; have BK950 := n1_; have GW950 := n2_; have GE950 := n3_; clear n0_ n1_ n2_ n3_; clear hb hbox hg))
  go_ret
  exact ⟨by first | rfl | (simp [errW_none, errW_some] <;> rfl) | (simp [*, errW_none, errW_some] <;> rfl), ZB⟩
 ·rw [if_neg c3] at H
  have c3b0 : decide (1048576 < (l1.length : Int)) = false := decide_eq_false c3
  have c3b1 : decide (1048576 < l1.length) = false := decide_eq_false (by omega)
  clear c3
  replace H := Option.bind_eq_some_iff.mp H
  obtain ⟨t951, A50, H⟩ := H
  replace H : (if t951 < 0 then (some true) else ((laws_toJacobi.f k a0_0 l0_1 l0_2).bind fun bt952 => ((laws_toInt64S.f k l1).bind fun t959 => ((spec_SumBy.f k bt952.1 bt952.2.1 bt952.2.2 t959).bind fun bt962 => ((laws_toJacobi.f k a0_0 l0_1 l0_2).bind fun bt966 => ((laws_toInt64S.f k l1).bind fun t974 => ((impl_SumBy.f k bt966.1 bt966.2.1 bt966.2.2 t974).bind fun bt977 => ((laws_eqInt64S.f k bt977.1 bt962.1).bind fun t981 => (if t981 = true then (laws_FnExactSumBy.j0 k l1 bt962.1 bt962.2 t974 bt977.1 bt977.2 (bt977.2 != bt962.2) a0_0 l0_1 l0_2 bt966.1 bt966.2.1 bt966.2.2) else (laws_FnExactSumBy.j0 k l1 bt962.1 bt962.2 t974 bt977.1 bt977.2 true a0_0 l0_1 l0_2 bt966.1 bt966.2.1 bt966.2.2)))))))))) = some r := H
  have A5 := Aside0.mk A50
  clear A50
  by_cases c6 : t951 < 0
  ·rw [if_pos c6] at H
   have c6b0 : decide (t951 < 0) = true := decide_eq_true c6
   clear c6
   obtain rfl := Option.some.inj H
   go_enter Try.func9, Try.ntmps9
   go_wp2_with (first | ((with_reducible refine gate_dst (N := 2) rfl ?_); refine box_event ?hg (N := 2) ?hd (cs := #[.int .i64 a0_0, .slice A0_1 l0_1.length c0_1, .slice A0_2 l0_2.length c0_2]) (t := 24) ?hr ?_; (case hd => rfl); (case hg => rfl); (case hr => first | (go_simp; done) | (go_simp; rfl)); intro gb950 hg w7 hbox hb; have n0_ := Aside0.mk (below_step ZB hb); have n1_ := Aside0.mk (hbox); have n2_ := Aside0.mk ((ZG hg : w.heap.size ≤ gb950)); have n3_ := Aside0.mk ((ZG hg : w.heap.size ≤ gb950)); clear HB; have HB := n0_; have BK950 := n1_; have GW950 := n2_; have GE950 := n3_; clear n0_ n1_ n2_ n3_; clear hb hbox hg; obtain ⟨hcz8_0, hcz8_1, hcz8_2, hfz8_0, hfz8_1, hfz8_2⟩ := ZD3 BK950) | ((with_reducible refine gate_callee (f := 14) rfl ?_); refine goesL_ (some 22) rfl rfl Try.func14 (by kernel_rfl) rfl #[.agg #[.int .i64 a0_0, .slice A0_1 l0_1.length c0_1, .slice A0_2 l0_2.length c0_2], .int .i64 1048576] rfl ZA ?_; (with_reducible refine (laws_szJacobi.calls a0_0 _ _ l0_1 _ _ l0_2 1048576 t951 _ ?side1 ?side2 ?side3 ?side4 A5.out).mono ?_); (case side1 => exact ZC HR0_1); (case side2 => exact HC0_1.out); (case side3 => exact ZC HR0_2); (case side4 => exact HC0_2.out); rintro e w9 ⟨rfl, hb⟩; refine ⟨_, rfl, ?_⟩; have n0_ := ZL BK950 hb; have n1_ := Aside0.mk (below_step ZB hb); clear BK950; clear HB; have BK950 := n0_; have HB := n1_; clear n0_ n1_; (try clear hb); (try clear hb2); (try clear hk); (try clear hi)))
   go_ret
   exact ⟨by first | rfl | (simp [errW_none, errW_some] <;> rfl) | (simp [*, errW_none, errW_some] <;> rfl), ZB⟩
  ·rw [if_neg c6] at H
   have c6b0 : decide (t951 < 0) = false := decide_eq_false c6
   clear c6
   replace H := Option.bind_eq_some_iff.mp H
   obtain ⟨⟨t952, t953, t956⟩, A100, H⟩ := H
   replace H : ((laws_toInt64S.f k l1).bind fun t959 => ((spec_SumBy.f k t952 t953 t956 t959).bind fun bt962 => ((laws_toJacobi.f k a0_0 l0_1 l0_2).bind fun bt966 => ((laws_toInt64S.f k l1).bind fun t974 => ((impl_SumBy.f k bt966.1 bt966.2.1 bt966.2.2 t974).bind fun bt977 => ((laws_eqInt64S.f k bt977.1 bt962.1).bind fun t981 => (if t981 = true then (laws_FnExactSumBy.j0 k l1 bt962.1 bt962.2 t974 bt977.1 bt977.2 (bt977.2 != bt962.2) a0_0 l0_1 l0_2 bt966.1 bt966.2.1 bt966.2.2) else (laws_FnExactSumBy.j0 k l1 bt962.1 bt962.2 t974 bt977.1 bt977.2 true a0_0 l0_1 l0_2 bt966.1 bt966.2.1 bt966.2.2)))))))) = some r := H
   have A10 := Aside0.mk A100
   clear A100
   replace H := Option.bind_eq_some_iff.mp H
   obtain ⟨t959, A110, H⟩ := H
   replace H : ((spec_SumBy.f k t952 t953 t956 t959).bind fun bt962 => ((laws_toJacobi.f k a0_0 l0_1 l0_2).bind fun bt966 => ((laws_toInt64S.f k l1).bind fun t974 => ((impl_SumBy.f k bt966.1 bt966.2.1 bt966.2.2 t974).bind fun bt977 => ((laws_eqInt64S.f k bt977.1 bt962.1).bind fun t981 => (if t981 = true then (laws_FnExactSumBy.j0 k l1 bt962.1 bt962.2 t974 bt977.1 bt977.2 (bt977.2 != bt962.2) a0_0 l0_1 l0_2 bt966.1 bt966.2.1 bt966.2.2) else (laws_FnExactSumBy.j0 k l1 bt962.1 bt962.2 t974 bt977.1 bt977.2 true a0_0 l0_1 l0_2 bt966.1 bt966.2.1 bt966.2.2))))))) = some r := H
   have A11 := Aside0.mk A110
   clear A110
   replace H := Option.bind_eq_some_iff.mp H
   obtain ⟨⟨t962, t965⟩, A120, H⟩ := H
   replace H : ((laws_toJacobi.f k a0_0 l0_1 l0_2).bind fun bt966 => ((laws_toInt64S.f k l1).bind fun t974 => ((impl_SumBy.f k bt966.1 bt966.2.1 bt966.2.2 t974).bind fun bt977 => ((laws_eqInt64S.f k bt977.1 t962).bind fun t981 => (if t981 = true then (laws_FnExactSumBy.j0 k l1 t962 t965 t974 bt977.1 bt977.2 (bt977.2 != t965) a0_0 l0_1 l0_2 bt966.1 bt966.2.1 bt966.2.2) else (laws_FnExactSumBy.j0 k l1 t962 t965 t974 bt977.1 bt977.2 true a0_0 l0_1 l0_2 bt966.1 bt966.2.1 bt966.2.2)))))) = some r := H
   have A12 := Aside0.mk A120
   clear A120
   replace H := Option.bind_eq_some_iff.mp H
   obtain ⟨⟨t966, t967, t970⟩, A130, H⟩ := H
   replace H : ((laws_toInt64S.f k l1).bind fun t974 => ((impl_SumBy.f k t966 t967 t970 t974).bind fun bt977 => ((laws_eqInt64S.f k bt977.1 t962).bind fun t981 => (if t981 = true then (laws_FnExactSumBy.j0 k l1 t962 t965 t974 bt977.1 bt977.2 (bt977.2 != t965) a0_0 l0_1 l0_2 t966 t967 t970) else (laws_FnExactSumBy.j0 k l1 t962 t965 t974 bt977.1 bt977.2 true a0_0 l0_1 l0_2 t966 t967 t970))))) = some r := H
   have A13 := Aside0.mk A130
   clear A130
   replace H := Option.bind_eq_some_iff.mp H
   obtain ⟨t974, A140, H⟩ := H
   replace H : ((impl_SumBy.f k t966 t967 t970 t974).bind fun bt977 => ((laws_eqInt64S.f k bt977.1 t962).bind fun t981 => (if t981 = true then (laws_FnExactSumBy.j0 k l1 t962 t965 t974 bt977.1 bt977.2 (bt977.2 != t965) a0_0 l0_1 l0_2 t966 t967 t970) else (laws_FnExactSumBy.j0 k l1 t962 t965 t974 bt977.1 bt977.2 true a0_0 l0_1 l0_2 t966 t967 t970)))) = some r := H
   have A14 := Aside0.mk A140
   clear A140
   replace H := Option.bind_eq_some_iff.mp H
   obtain ⟨⟨t977, t980⟩, A150, H⟩ := H
   replace H : ((laws_eqInt64S.f k t977 t962).bind fun t981 => (if t981 = true then (laws_FnExactSumBy.j0 k l1 t962 t965 t974 t977 t980 (t980 != t965) a0_0 l0_1 l0_2 t966 t967 t970) else (laws_FnExactSumBy.j0 k l1 t962 t965 t974 t977 t980 true a0_0 l0_1 l0_2 t966 t967 t970))) = some r := H
   have A15 := Aside0.mk A150
   clear A150
   have HC16 := Aside0.mk H
   clear H
   go_enter Try.func9, Try.ntmps9
   go_upto_region 11 with (first | ((with_reducible refine gate_dst (N := 2) rfl ?_); refine box_event ?hg (N := 2) ?hd (cs := #[.int .i64 a0_0, .slice A0_1 l0_1.length c0_1, .slice A0_2 l0_2.length c0_2]) (t := 24) ?hr ?_; (case hd => rfl); (case hg => rfl); (case hr => first | (go_simp; done) | (go_simp; rfl)); intro gb950 hg w17 hbox hb; have n0_ := Aside0.mk (below_step ZB hb); have n1_ := Aside0.mk (hbox); have n2_ := Aside0.mk ((ZG hg : w.heap.size ≤ gb950)); have n3_ := Aside0.mk ((ZG hg : w.heap.size ≤ gb950)); clear HB; have HB := n0_; have BK950 := n1_; have GW950 := n2_; have GE950 := n3_; clear n0_ n1_ n2_ n3_; clear hb hbox hg; obtain ⟨hcz18_0, hcz18_1, hcz18_2, hfz18_0, hfz18_1, hfz18_2⟩ := ZD3 BK950) | ((with_reducible refine gate_callee (f := 14) rfl ?_); refine goesL_ (some 22) rfl rfl Try.func14 (by kernel_rfl) rfl #[.agg #[.int .i64 a0_0, .slice A0_1 l0_1.length c0_1, .slice A0_2 l0_2.length c0_2], .int .i64 1048576] rfl ZA ?_; (with_reducible refine (laws_szJacobi.calls a0_0 _ _ l0_1 _ _ l0_2 1048576 t951 _ ?side1 ?side2 ?side3 ?side4 A5.out).mono ?_); (case side1 => exact ZC HR0_1); (case side2 => exact HC0_1.out); (case side3 => exact ZC HR0_2); (case side4 => exact HC0_2.out); rintro e w19 ⟨rfl, hb⟩; refine ⟨_, rfl, ?_⟩; have n0_ := ZL BK950 hb; have n1_ := Aside0.mk (below_step ZB hb); clear BK950; clear HB; have BK950 := n0_; have HB := n1_; clear n0_ n1_; (try clear hb); (try clear hb2); (try clear hk); (try clear hi); obtain ⟨hcz20_0, hcz20_1, hcz20_2, hfz20_0, hfz20_1, hfz20_2⟩ := ZD3 BK950) | ((with_reducible refine gate_callee (f := 16) rfl ?_); refine goesL_ (some 27) rfl rfl Try.func16 (by kernel_rfl) rfl #[.agg #[.int .i64 a0_0, .slice A0_1 l0_1.length c0_1, .slice A0_2 l0_2.length c0_2]] rfl ZA ?_; (with_reducible refine (laws_toJacobi.calls k a0_0 _ _ l0_1 _ _ l0_2 t952 t953 t956 _ ?side1 ?side2 ?side3 ?side4 A10.out).mono ?_); (case side1 => exact ZC HR0_1); (case side2 => exact HC0_1.out); (case side3 => exact ZC HR0_2); (case side4 => exact HC0_2.out); rintro e w21 ⟨v954, v957, rfl, ho0, ho1, hb⟩; refine ⟨_, rfl, ?_⟩; have n0_ := Aside0.mk (Kd.R_lower ho0 (below_size ZB)); have n1_ := Aside0.mk (Kd.R_lower ho1 (below_size ZB)); have n2_ := ZL BK950 hb; have n3_ := Aside0.mk (below_step ZB hb); clear BK950; clear HB; have HO955 := n0_; have HO958 := n1_; have BK950 := n2_; have HB := n3_; clear n0_ n1_ n2_ n3_; (try clear hb); (try clear hb2); (try clear hk); (try clear hi); (try clear ho0); (try clear ho1)) | ((with_reducible refine gate_callee (f := 27) rfl ?_); refine goesL_ (some 29) rfl rfl Try.func27 (by kernel_rfl) rfl #[.slice A1 l1.length c1] rfl ZA ?_; (with_reducible refine (laws_toInt64S.calls k _ _ l1 t959 _ ?side1 ?side2 A11.out).mono ?_); (case side1 => exact ZC HR1); (case side2 => exact HC1.out); rintro e w22 ⟨v960, rfl, ho0, hb⟩; refine ⟨_, rfl, ?_⟩; have n0_ := Aside0.mk (Kd.R_elder' (ZR HO955) (Kd.R_base ho0) hb); have n1_ := Aside0.mk (Kd.R_elder' (ZR HO958) (Kd.R_base ho0) hb); have n2_ := Aside0.mk (Kd.R_lower (Kd.R_new' (Kd.R_new' ho0 (Kd.R_lt (ZR HO955))) (Kd.R_lt (ZR HO958))) (below_size ZB)); have n3_ := ZL BK950 hb; have n4_ := Aside0.mk (below_step ZB hb); clear HO955; clear HO958; clear BK950; clear HB; have HO955 := n0_; have HO958 := n1_; have HO961 := n2_; have BK950 := n3_; have HB := n4_; clear n0_ n1_ n2_ n3_ n4_; (try clear hb); (try clear hb2); (try clear hk); (try clear hi); (try clear ho0); obtain ⟨Ao23, co23, eo23⟩ := Kd.R_slice HO955.out; subst eo23; obtain ⟨Ao24, co24, eo24⟩ := Kd.R_slice HO958.out; subst eo24; obtain ⟨Ao25, co25, eo25⟩ := Kd.R_slice HO961.out; subst eo25) | ((with_reducible refine gate_callee (f := 38) rfl ?_); refine goesL_ (some 30) rfl rfl Try.func38 (by kernel_rfl) rfl #[.agg #[.int .i64 t952, .slice Ao23 t953.length co23, .slice Ao24 t956.length co24], .slice Ao25 t959.length co25] rfl ZA ?_; (with_reducible refine (spec_SumBy.calls k t952 _ _ t953 _ _ t956 _ _ t959 t962 t965 _ ?side1 ?side2 ?side3 ?side4 ?side5 ?side6 A12.out).mono ?_); (case side1 => repeat (first | exact (Kd.R_reads' HO955.out).2.2 | (with_reducible refine Kd.C_alloc ?_ _) | (with_reducible refine Kd.C_drewN ?_ _) | (with_reducible refine Kd.C_drew ?_))); (case side2 => exact (Kd.R_reads' HO955.out).2.1); (case side3 => repeat (first | exact (Kd.R_reads' HO958.out).2.2 | (with_reducible refine Kd.C_alloc ?_ _) | (with_reducible refine Kd.C_drewN ?_ _) | (with_reducible refine Kd.C_drew ?_))); (case side4 => exact (Kd.R_reads' HO958.out).2.1); (case side5 => repeat (first | exact (Kd.R_reads' HO961.out).2.2 | (with_reducible refine Kd.C_alloc ?_ _) | (with_reducible refine Kd.C_drewN ?_ _) | (with_reducible refine Kd.C_drew ?_))); (case side6 => exact (Kd.R_reads' HO961.out).2.1); rintro e w26 ⟨v963, rfl, ho0, hb⟩; refine ⟨_, rfl, ?_⟩; have n0_ := Aside0.mk (Kd.R_elder' (ZR HO955) (Kd.R_base ho0) hb); have n1_ := Aside0.mk (Kd.R_elder' (ZR HO958) (Kd.R_base ho0) hb); have n2_ := Aside0.mk (Kd.R_elder' (ZR HO961) (Kd.R_base ho0) hb); have n3_ := Aside0.mk (Kd.R_lower (Kd.R_new' (Kd.R_new' (Kd.R_new' ho0 (Kd.R_lt (ZR HO955))) (Kd.R_lt (ZR HO958))) (Kd.R_lt (ZR HO961))) (below_size ZB)); have n4_ := ZL BK950 hb; have n5_ := Aside0.mk (below_step ZB hb); clear HO955; clear HO958; clear HO961; clear BK950; clear HB; have HO955 := n0_; have HO958 := n1_; have HO961 := n2_; have HO964 := n3_; have BK950 := n4_; have HB := n5_; clear n0_ n1_ n2_ n3_ n4_ n5_; (try clear hb); (try clear hb2); (try clear hk); (try clear hi); (try clear ho0); obtain ⟨hcz27_0, hcz27_1, hcz27_2, hfz27_0, hfz27_1, hfz27_2⟩ := ZD3 BK950) | ((with_reducible refine gate_callee (f := 16) rfl ?_); refine goesL_ (some 34) rfl rfl Try.func16 (by kernel_rfl) rfl #[.agg #[.int .i64 a0_0, .slice A0_1 l0_1.length c0_1, .slice A0_2 l0_2.length c0_2]] rfl ZA ?_; (with_reducible refine (laws_toJacobi.calls k a0_0 _ _ l0_1 _ _ l0_2 t966 t967 t970 _ ?side1 ?side2 ?side3 ?side4 A13.out).mono ?_); (case side1 => exact ZC HR0_1); (case side2 => exact HC0_1.out); (case side3 => exact ZC HR0_2); (case side4 => exact HC0_2.out); rintro e w28 ⟨v968, v971, rfl, ho0, ho1, hb⟩; refine ⟨_, rfl, ?_⟩; have n0_ := Aside0.mk (Kd.R_mono (Kd.R_told (Kd.R_told (Kd.R_old (ZR HO955) hb) (Kd.R_base ho0)) (Kd.R_base ho1)) (fun _ h_ => h_.1)); have n1_ := Aside0.mk (Kd.R_mono (Kd.R_told (Kd.R_told (Kd.R_old (ZR HO958) hb) (Kd.R_base ho0)) (Kd.R_base ho1)) (fun _ h_ => h_.1)); have n2_ := Aside0.mk (Kd.R_mono (Kd.R_told (Kd.R_told (Kd.R_old (ZR HO961) hb) (Kd.R_base ho0)) (Kd.R_base ho1)) (fun _ h_ => h_.1)); have n3_ := Aside0.mk (Kd.R_mono (Kd.R_told (Kd.R_told (Kd.R_old (ZR HO964) hb) (Kd.R_base ho0)) (Kd.R_base ho1)) (fun _ h_ => h_.1)); have n4_ := Aside0.mk (Kd.R_lower (Kd.R_new' (Kd.R_new' (Kd.R_new' (Kd.R_new' ho0 (Kd.R_lt (ZR HO955))) (Kd.R_lt (ZR HO958))) (Kd.R_lt (ZR HO961))) (Kd.R_lt (ZR HO964))) (below_size ZB)); have n5_ := Aside0.mk (Kd.R_lower (Kd.R_new' (Kd.R_new' (Kd.R_new' (Kd.R_new' ho1 (Kd.R_lt (ZR HO955))) (Kd.R_lt (ZR HO958))) (Kd.R_lt (ZR HO961))) (Kd.R_lt (ZR HO964))) (below_size ZB)); have n6_ := ZL BK950 hb; have n7_ := Aside0.mk (below_step ZB hb); clear HO955; clear HO958; clear HO961; clear HO964; clear BK950; clear HB; have HO955 := n0_; have HO958 := n1_; have HO961 := n2_; have HO964 := n3_; have HO969 := n4_; have HO972 := n5_; have BK950 := n6_; have HB := n7_; clear n0_ n1_ n2_ n3_ n4_ n5_ n6_ n7_; (try clear hb); (try clear hb2); (try clear hk); (try clear hi); (try clear ho0); (try clear ho1)) | ((with_reducible refine gate_dst (N := 8) rfl ?_); refine box_event ?hg (N := 8) ?hd (cs := #[.int .i64 0, .slice none 0 0, .slice none 0 0]) (t := 29) ?hr ?_; (case hd => rfl); (case hg => rfl); (case hr => first | (go_simp; done) | (go_simp; rfl)); intro gb973 hg w29 hbox hb; have n0_ := Aside0.mk (Kd.R_below (ZR HO955) hb); have n1_ := Aside0.mk (Kd.R_below (ZR HO958) hb); have n2_ := Aside0.mk (Kd.R_below (ZR HO961) hb); have n3_ := Aside0.mk (Kd.R_below (ZR HO964) hb); have n4_ := Aside0.mk (Kd.R_below (ZR HO969) hb); have n5_ := Aside0.mk (Kd.R_below (ZR HO972) hb); have n6_ := ZL BK950 hb; have n7_ := Aside0.mk (below_step ZB hb); have n8_ := Aside0.mk (hbox); have n9_ := Aside0.mk ((ZG hg : w.heap.size ≤ gb973)); have n10_ := Aside0.mk ((ZG hg : w.heap.size ≤ gb973)); have n11_ := Aside0.mk ((ZN hg BK950 : gb950 ≠ gb973)); have n12_ := Aside0.mk ((ZM hg BK950 : gb973 ≠ gb950)); clear HO955; clear HO958; clear HO961; clear HO964; clear HO969; clear HO972; clear BK950; clear HB; have HO955 := n0_; have HO958 := n1_; have HO961 := n2_; have HO964 := n3_; have HO969 := n4_; have HO972 := n5_; have BK950 := n6_; have HB := n7_; have BK973 := n8_; have GW973 := n9_; have GE973 := n10_; have NB950_973 := n11_; have NB973_950 := n12_; clear n0_ n1_ n2_ n3_ n4_ n5_ n6_ n7_ n8_ n9_ n10_ n11_ n12_; clear hb hbox hg; have hnb30 := NB973_950.out; have hnc30 := NB950_973.out; obtain ⟨hcz31_0, hcz31_1, hcz31_2, hfz31_0, hfz31_1, hfz31_2⟩ := ZD3 BK973; obtain ⟨Ao32, co32, eo32⟩ := Kd.R_slice HO969.out; subst eo32; obtain ⟨Ao33, co33, eo33⟩ := Kd.R_slice HO972.out; subst eo33) | ((with_reducible refine gate_callee (f := 27) rfl ?_); refine goesL_ (some 36) rfl rfl Try.func27 (by kernel_rfl) rfl #[.slice A1 l1.length c1] rfl ZA ?_; (with_reducible refine (laws_toInt64S.calls k _ _ l1 t974 _ ?side1 ?side2 A14.out).mono ?_); (case side1 => exact Kd.C_below HR1.out ZB); (case side2 => exact HC1.out); rintro e w34 ⟨v975, rfl, ho0, hb⟩; refine ⟨_, rfl, ?_⟩; have n0_ := Aside0.mk (Kd.R_elder' (ZQ (ZF3 HO955 BK973 (.int .i64 t966) (.slice Ao32 t967.length co32) (.slice Ao33 t970.length co33))) (Kd.R_base ho0) hb); have n1_ := Aside0.mk (Kd.R_elder' (ZQ (ZF3 HO958 BK973 (.int .i64 t966) (.slice Ao32 t967.length co32) (.slice Ao33 t970.length co33))) (Kd.R_base ho0) hb); have n2_ := Aside0.mk (Kd.R_elder' (ZQ (ZF3 HO961 BK973 (.int .i64 t966) (.slice Ao32 t967.length co32) (.slice Ao33 t970.length co33))) (Kd.R_base ho0) hb); have n3_ := Aside0.mk (Kd.R_elder' (ZQ (ZF3 HO964 BK973 (.int .i64 t966) (.slice Ao32 t967.length co32) (.slice Ao33 t970.length co33))) (Kd.R_base ho0) hb); have n4_ := Aside0.mk (Kd.R_elder' (ZQ (ZF3 HO969 BK973 (.int .i64 t966) (.slice Ao32 t967.length co32) (.slice Ao33 t970.length co33))) (Kd.R_base ho0) hb); have n5_ := Aside0.mk (Kd.R_elder' (ZQ (ZF3 HO972 BK973 (.int .i64 t966) (.slice Ao32 t967.length co32) (.slice Ao33 t970.length co33))) (Kd.R_base ho0) hb); have n6_ := Aside0.mk (Kd.R_lower (Kd.R_new' (Kd.R_new' (Kd.R_new' (Kd.R_new' (Kd.R_new' (Kd.R_new' ho0 (Kd.R_lt (ZQ (ZF3 HO955 BK973 (.int .i64 t966) (.slice Ao32 t967.length co32) (.slice Ao33 t970.length co33))))) (Kd.R_lt (ZQ (ZF3 HO958 BK973 (.int .i64 t966) (.slice Ao32 t967.length co32) (.slice Ao33 t970.length co33))))) (Kd.R_lt (ZQ (ZF3 HO961 BK973 (.int .i64 t966) (.slice Ao32 t967.length co32) (.slice Ao33 t970.length co33))))) (Kd.R_lt (ZQ (ZF3 HO964 BK973 (.int .i64 t966) (.slice Ao32 t967.length co32) (.slice Ao33 t970.length co33))))) (Kd.R_lt (ZQ (ZF3 HO969 BK973 (.int .i64 t966) (.slice Ao32 t967.length co32) (.slice Ao33 t970.length co33))))) (Kd.R_lt (ZQ (ZF3 HO972 BK973 (.int .i64 t966) (.slice Ao32 t967.length co32) (.slice Ao33 t970.length co33))))) (below_size ZB)); have n7_ := Aside0.mk (blk_below (g := gb950) (o := .cells #[.int .i64 a0_0, .slice A0_1 l0_1.length c0_1, .slice A0_2 l0_2.length c0_2] 24 (0, 0)) (by refine ZS ?_; refine blk_far ?_ NB950_973.out _; refine ZS ?_; refine blk_far ?_ NB950_973.out _; refine ZS ?_; refine blk_far ?_ NB950_973.out _; refine ZS ?_; exact BK950.out) hb); have n8_ := Aside0.mk (blk_below (g := gb973) (o := .cells #[.int .i64 t966, .slice Ao32 t967.length co32, .slice Ao33 t970.length co33] 29 (0, 0)) (by refine ZS ?_; refine blk_put (cs := #[.int .i64 t966, .slice Ao32 t967.length co32, .slice none 0 0]) ?_ 2 _ rfl; refine ZS ?_; refine blk_put (cs := #[.int .i64 t966, .slice none 0 0, .slice none 0 0]) ?_ 1 _ rfl; refine ZS ?_; refine blk_put (cs := #[.int .i64 0, .slice none 0 0, .slice none 0 0]) ?_ 0 _ rfl; refine ZS ?_; exact BK973.out) hb); have n9_ := Aside0.mk (below_step ZB hb); clear HO955; clear HO958; clear HO961; clear HO964; clear HO969; clear HO972; clear BK950; clear BK973; clear HB; have HO955 := n0_; have HO958 := n1_; have HO961 := n2_; have HO964 := n3_; have HO969 := n4_; have HO972 := n5_; have HO976 := n6_; have BK950 := n7_; have BK973 := n8_; have HB := n9_; clear n0_ n1_ n2_ n3_ n4_ n5_ n6_ n7_ n8_ n9_; (try clear hb); (try clear hb2); (try clear hk); (try clear hi); (try clear ho0); obtain ⟨hcz35_0, hcz35_1, hcz35_2, hfz35_0, hfz35_1, hfz35_2⟩ := ZD3 BK973; obtain ⟨Ao36, co36, eo36⟩ := Kd.R_slice HO976.out; subst eo36) | ((with_reducible refine gate_callee (f := 39) rfl ?_); refine goesL_ (some 40) rfl rfl Try.func39 (by kernel_rfl) rfl #[.agg #[.int .i64 t966, .slice Ao32 t967.length co32, .slice Ao33 t970.length co33], .slice Ao36 t974.length co36] rfl ZA ?_; (with_reducible refine (impl_SumBy.calls k t966 _ _ t967 _ _ t970 _ _ t974 t977 t980 _ ?side1 ?side2 ?side3 ?side4 ?side5 ?side6 A15.out).mono ?_); (case side1 => repeat (first | exact (Kd.R_reads' HO969.out).2.2 | (with_reducible refine Kd.C_alloc ?_ _) | (with_reducible refine Kd.C_drewN ?_ _) | (with_reducible refine Kd.C_drew ?_))); (case side2 => exact (Kd.R_reads' HO969.out).2.1); (case side3 => repeat (first | exact (Kd.R_reads' HO972.out).2.2 | (with_reducible refine Kd.C_alloc ?_ _) | (with_reducible refine Kd.C_drewN ?_ _) | (with_reducible refine Kd.C_drew ?_))); (case side4 => exact (Kd.R_reads' HO972.out).2.1); (case side5 => repeat (first | exact (Kd.R_reads' HO976.out).2.2 | (with_reducible refine Kd.C_alloc ?_ _) | (with_reducible refine Kd.C_drewN ?_ _) | (with_reducible refine Kd.C_drew ?_))); (case side6 => exact (Kd.R_reads' HO976.out).2.1); rintro e w37 ⟨v978, rfl, ho0, hb⟩; refine ⟨_, rfl, ?_⟩; have n0_ := Aside0.mk (Kd.R_elder' (ZR HO955) (Kd.R_base ho0) hb); have n1_ := Aside0.mk (Kd.R_elder' (ZR HO958) (Kd.R_base ho0) hb); have n2_ := Aside0.mk (Kd.R_elder' (ZR HO961) (Kd.R_base ho0) hb); have n3_ := Aside0.mk (Kd.R_elder' (ZR HO964) (Kd.R_base ho0) hb); have n4_ := Aside0.mk (Kd.R_elder' (ZR HO969) (Kd.R_base ho0) hb); have n5_ := Aside0.mk (Kd.R_elder' (ZR HO972) (Kd.R_base ho0) hb); have n6_ := Aside0.mk (Kd.R_elder' (ZR HO976) (Kd.R_base ho0) hb); have n7_ := Aside0.mk (Kd.R_lower (Kd.R_new' (Kd.R_new' (Kd.R_new' (Kd.R_new' (Kd.R_new' (Kd.R_new' (Kd.R_new' ho0 (Kd.R_lt (ZR HO955))) (Kd.R_lt (ZR HO958))) (Kd.R_lt (ZR HO961))) (Kd.R_lt (ZR HO964))) (Kd.R_lt (ZR HO969))) (Kd.R_lt (ZR HO972))) (Kd.R_lt (ZR HO976))) (below_size ZB)); have n8_ := ZL BK950 hb; have n9_ := ZL BK973 hb; have n10_ := Aside0.mk (below_step ZB hb); clear HO955; clear HO958; clear HO961; clear HO964; clear HO969; clear HO972; clear HO976; clear BK950; clear BK973; clear HB; have HO955 := n0_; have HO958 := n1_; have HO961 := n2_; have HO964 := n3_; have HO969 := n4_; have HO972 := n5_; have HO976 := n6_; have HO979 := n7_; have BK950 := n8_; have BK973 := n9_; have HB := n10_; clear n0_ n1_ n2_ n3_ n4_ n5_ n6_ n7_ n8_ n9_ n10_; (try clear hb); (try clear hb2); (try clear hk); (try clear hi); (try clear ho0)))
   (try simp only [Act.put, List.setIfInBounds_toArray, List.set_cons_zero, List.set_cons_succ])
   go_cut [51] (fun v51 wc => ∃ (kq : Nat) (x51_15 : Bool), v51 = .bool x51_15 ∧ Aside0 (laws_FnExactSumBy.j0 kq l1 t962 t965 t974 t977 t980 x51_15 a0_0 l0_1 l0_2 t966 t967 t970 = some r) ∧ Aside0 (kq ≤ k) ∧ Aside0 (Kd.R (Kd.int .i64) 2 wc w.heap.size (fun k_ => some k_ ≠ ((.slice Ao36 t974.length co36) : Value).ownBlock ∧ some k_ ≠ (v978 : Value).ownBlock ∧ some k_ ≠ ((.slice Ao32 t967.length co32) : Value).ownBlock ∧ some k_ ≠ ((.slice Ao33 t970.length co33) : Value).ownBlock) v963 t962) ∧ Aside0 (Kd.R (Kd.int .i64) 2 wc w.heap.size (fun k_ => some k_ ≠ (v963 : Value).ownBlock ∧ some k_ ≠ (v978 : Value).ownBlock ∧ some k_ ≠ ((.slice Ao32 t967.length co32) : Value).ownBlock ∧ some k_ ≠ ((.slice Ao33 t970.length co33) : Value).ownBlock) (.slice Ao36 t974.length co36) t974) ∧ Aside0 (Kd.R (Kd.int .i64) 2 wc w.heap.size (fun k_ => some k_ ≠ (v963 : Value).ownBlock ∧ some k_ ≠ ((.slice Ao36 t974.length co36) : Value).ownBlock ∧ some k_ ≠ ((.slice Ao32 t967.length co32) : Value).ownBlock ∧ some k_ ≠ ((.slice Ao33 t970.length co33) : Value).ownBlock) v978 t977) ∧ Aside0 (Kd.R (Kd.int .i64) 2 wc w.heap.size (fun k_ => some k_ ≠ (v963 : Value).ownBlock ∧ some k_ ≠ ((.slice Ao36 t974.length co36) : Value).ownBlock ∧ some k_ ≠ (v978 : Value).ownBlock ∧ some k_ ≠ ((.slice Ao33 t970.length co33) : Value).ownBlock) (.slice Ao32 t967.length co32) t967) ∧ Aside0 (Kd.R (Kd.int .i64) 2 wc w.heap.size (fun k_ => some k_ ≠ (v963 : Value).ownBlock ∧ some k_ ≠ ((.slice Ao36 t974.length co36) : Value).ownBlock ∧ some k_ ≠ (v978 : Value).ownBlock ∧ some k_ ≠ ((.slice Ao32 t967.length co32) : Value).ownBlock) (.slice Ao33 t970.length co33) t970) ∧ Aside0 (wc.heap[gb950]? = some (.cells #[.int .i64 a0_0, (.slice A0_1 l0_1.length c0_1), (.slice A0_2 l0_2.length c0_2)] 24 (0, 0))) ∧ Aside0 (wc.heap[gb973]? = some (.cells #[.int .i64 t966, (.slice Ao32 t967.length co32), (.slice Ao33 t970.length co33)] 29 (0, 0))) ∧ Aside0 (Below w.heap.size w wc))
   case first =>
    have H := HC16.out
    clear HC16
    replace H := Option.bind_eq_some_iff.mp H
    obtain ⟨t981, A380, H⟩ := H
    replace H : (if t981 = true then (laws_FnExactSumBy.j0 k l1 t962 t965 t974 t977 t980 (t980 != t965) a0_0 l0_1 l0_2 t966 t967 t970) else (laws_FnExactSumBy.j0 k l1 t962 t965 t974 t977 t980 true a0_0 l0_1 l0_2 t966 t967 t970)) = some r := H
    have A38 := Aside0.mk A380
    clear A380
    by_cases c39 : t981 = true
    ·subst c39
     have H1 : (laws_FnExactSumBy.j0 k l1 t962 t965 t974 t977 t980 (t980 != t965) a0_0 l0_1 l0_2 t966 t967 t970) = some r := by rw [if_pos rfl] at H; exact H
     clear H
     have H := H1
     clear H1
     have H' := Aside0.mk H
     clear H
     obtain ⟨Ao40, co40, eo40⟩ := Kd.R_slice HO979.out
     subst eo40
     obtain ⟨Ao41, co41, eo41⟩ := Kd.R_slice HO964.out
     subst eo41
     go_wp2_with (first | ((with_reducible refine gate_callee (f := 29) rfl ?_); refine goesL_ (some 45) rfl rfl Try.func29 (by kernel_rfl) rfl #[.slice Ao40 t977.length co40, .slice Ao41 t962.length co41] rfl ZA ?_; (with_reducible refine (laws_eqInt64S.calls k _ _ t977 _ _ t962 true _ ?side1 ?side2 ?side3 ?side4 A38.out).mono ?_); (case side1 => repeat (first | exact (Kd.R_reads' HO979.out).2.2 | (with_reducible refine Kd.C_alloc ?_ _) | (with_reducible refine Kd.C_drewN ?_ _) | (with_reducible refine Kd.C_drew ?_))); (case side2 => exact (Kd.R_reads' HO979.out).2.1); (case side3 => repeat (first | exact (Kd.R_reads' HO964.out).2.2 | (with_reducible refine Kd.C_alloc ?_ _) | (with_reducible refine Kd.C_drewN ?_ _) | (with_reducible refine Kd.C_drew ?_))); (case side4 => exact (Kd.R_reads' HO964.out).2.1); rintro e w' ⟨rfl, ⟨nd, rfl⟩⟩; refine ⟨_, rfl, ?_⟩))
     go_meet
     case rel => exact ⟨_, ((t980 != t965)), (by first | rfl | (simp; done) | (simp [*]; done)), H', ⟨by first | omega | exact Nat.le_refl _⟩, ⟨by refine ZQ ?_; exact Kd.R_mono HO964.out (fun _ hk => (And.intro (hk.1.2) ((And.intro (hk.2) ((And.intro (hk.1.1.1.2) (hk.1.1.2)))))))⟩, ⟨by refine ZQ ?_; exact Kd.R_mono HO976.out (fun _ hk => (And.intro (hk.1.1.1.2) ((And.intro (hk.2) ((And.intro (hk.1.1.2) (hk.1.2)))))))⟩, ⟨by refine ZQ ?_; exact Kd.R_mono HO979.out (fun _ hk => (And.intro (hk.1.1.1.2) ((And.intro (hk.2) ((And.intro (hk.1.1.2) (hk.1.2)))))))⟩, ⟨by refine ZQ ?_; exact Kd.R_mono HO969.out (fun _ hk => (And.intro (hk.1.1.2) ((And.intro (hk.1.2) ((And.intro (hk.2) (hk.1.1.1.1.1.1)))))))⟩, ⟨by refine ZQ ?_; exact Kd.R_mono HO972.out (fun _ hk => (And.intro (hk.1.1.2) ((And.intro (hk.1.2) ((And.intro (hk.2) (hk.1.1.1.1.1.1)))))))⟩, ⟨ZK BK950⟩, ⟨ZK BK973⟩, ⟨ZB⟩⟩
    ·replace c39 := Bool.eq_false_iff.mpr c39
     subst c39
     have H1 : (laws_FnExactSumBy.j0 k l1 t962 t965 t974 t977 t980 true a0_0 l0_1 l0_2 t966 t967 t970) = some r := by rw [if_neg (show ¬ (false = true) by decide)] at H; exact H
     clear H
     have H := H1
     clear H1
     have H' := Aside0.mk H
     clear H
     obtain ⟨Ao42, co42, eo42⟩ := Kd.R_slice HO979.out
     subst eo42
     obtain ⟨Ao43, co43, eo43⟩ := Kd.R_slice HO964.out
     subst eo43
     go_wp2_with (first | ((with_reducible refine gate_callee (f := 29) rfl ?_); refine goesL_ (some 45) rfl rfl Try.func29 (by kernel_rfl) rfl #[.slice Ao42 t977.length co42, .slice Ao43 t962.length co43] rfl ZA ?_; (with_reducible refine (laws_eqInt64S.calls k _ _ t977 _ _ t962 false _ ?side1 ?side2 ?side3 ?side4 A38.out).mono ?_); (case side1 => repeat (first | exact (Kd.R_reads' HO979.out).2.2 | (with_reducible refine Kd.C_alloc ?_ _) | (with_reducible refine Kd.C_drewN ?_ _) | (with_reducible refine Kd.C_drew ?_))); (case side2 => exact (Kd.R_reads' HO979.out).2.1); (case side3 => repeat (first | exact (Kd.R_reads' HO964.out).2.2 | (with_reducible refine Kd.C_alloc ?_ _) | (with_reducible refine Kd.C_drewN ?_ _) | (with_reducible refine Kd.C_drew ?_))); (case side4 => exact (Kd.R_reads' HO964.out).2.1); rintro e w' ⟨rfl, ⟨nd, rfl⟩⟩; refine ⟨_, rfl, ?_⟩))
     go_meet
     case rel => exact ⟨_, (true), (by first | rfl | (simp; done) | (simp [*]; done)), H', ⟨by first | omega | exact Nat.le_refl _⟩, ⟨by refine ZQ ?_; exact Kd.R_mono HO964.out (fun _ hk => (And.intro (hk.1.2) ((And.intro (hk.2) ((And.intro (hk.1.1.1.2) (hk.1.1.2)))))))⟩, ⟨by refine ZQ ?_; exact Kd.R_mono HO976.out (fun _ hk => (And.intro (hk.1.1.1.2) ((And.intro (hk.2) ((And.intro (hk.1.1.2) (hk.1.2)))))))⟩, ⟨by refine ZQ ?_; exact Kd.R_mono HO979.out (fun _ hk => (And.intro (hk.1.1.1.2) ((And.intro (hk.2) ((And.intro (hk.1.1.2) (hk.1.2)))))))⟩, ⟨by refine ZQ ?_; exact Kd.R_mono HO969.out (fun _ hk => (And.intro (hk.1.1.2) ((And.intro (hk.1.2) ((And.intro (hk.2) (hk.1.1.1.1.1.1)))))))⟩, ⟨by refine ZQ ?_; exact Kd.R_mono HO972.out (fun _ hk => (And.intro (hk.1.1.2) ((And.intro (hk.1.2) ((And.intro (hk.2) (hk.1.1.1.1.1.1)))))))⟩, ⟨ZK BK950⟩, ⟨ZK BK973⟩, ⟨ZB⟩⟩
   case rest =>
    clear HC16
    try clear c1
    try clear c2
    try clear p2
    try clear c3
    try clear c3b0
    try clear c3b1
    try clear c6
    try clear c6b0
    try clear c9
    try clear c14
    try clear c16
    try clear c27
    try clear c29
    try clear c30
    try clear c38
    try clear c39
    try clear hcz18_0
    try clear hcz18_1
    try clear hcz18_2
    try clear hcz20_0
    try clear hcz20_1
    try clear hcz20_2
    try clear hcz27_0
    try clear hcz27_1
    try clear hcz27_2
    try clear hcz31_0
    try clear hcz31_1
    try clear hcz31_2
    try clear hcz35_0
    try clear hcz35_1
    try clear hcz35_2
    try clear hcz8_0
    try clear hcz8_1
    try clear hcz8_2
    try clear hfz18_0
    try clear hfz18_1
    try clear hfz18_2
    try clear hfz20_0
    try clear hfz20_1
    try clear hfz20_2
    try clear hfz27_0
    try clear hfz27_1
    try clear hfz27_2
    try clear hfz31_0
    try clear hfz31_1
    try clear hfz31_2
    try clear hfz35_0
    try clear hfz35_1
    try clear hfz35_2
    try clear hfz8_0
    try clear hfz8_1
    try clear hfz8_2
    obtain ⟨kq, x51_15, rfl, HA, HJ15, HO_6, HO_9, HO_10, HO_974001, HO_974002, BK950, BK973, HB⟩ := hcut
    cases kq with
    | zero => exact absurd HA.out (by simp [laws_FnExactSumBy.j0])
    | succ kj15 =>
     have H := HA.out
     clear HA
     simp only [laws_FnExactSumBy.j0] at H
     by_cases c44 : x51_15 = true
     ·subst c44
      have H1 : (some false) = some r := by rw [if_pos rfl] at H; exact H
      clear H
      have H := H1
      clear H1
      exact absurd (H.trans (congrArg some hT.out)) (by simp)
     ·replace c44 := Bool.eq_false_iff.mpr c44
      subst c44
      have H1 : ((laws_toJacobi.f kj15 a0_0 l0_1 l0_2).bind fun bt982 => ((laws_eqJacobi.f kj15 t966 t967 t970 bt982.1 bt982.2.1 bt982.2.2).bind fun t989 => (if t989 = true then ((laws_toInt64S.f kj15 l1).bind fun t990 => ((laws_eqInt64S.f kj15 t974 t990).bind fun t993 => (if t993 = true then ((laws_markJacobi.f kj15 t966 t967 t970 1).bind fun bt994 => ((laws_markInt64S.f kj15 t974 bt994.1).bind fun bt997 => (if bt997.1 < 0 then (laws_FnExactSumBy.j1 kj15 l1 t962 t965 t977 true a0_0 l0_1 l0_2) else ((laws_eqInt64S.f kj15 t977 t962).bind fun t999 => (if t999 = true then (laws_FnExactSumBy.j1 kj15 l1 t962 t965 t977 (t980 != t965) a0_0 l0_1 l0_2) else (laws_FnExactSumBy.j1 kj15 l1 t962 t965 t977 true a0_0 l0_1 l0_2)))))) else (some false)))) else (some false)))) = some r := by rw [if_neg (show ¬ (false = true) by decide)] at H; exact H
      clear H
      have H := H1
      clear H1
      replace H := Option.bind_eq_some_iff.mp H
      obtain ⟨⟨t982, t983, t986⟩, A450, H⟩ := H
      replace H : ((laws_eqJacobi.f kj15 t966 t967 t970 t982 t983 t986).bind fun t989 => (if t989 = true then ((laws_toInt64S.f kj15 l1).bind fun t990 => ((laws_eqInt64S.f kj15 t974 t990).bind fun t993 => (if t993 = true then ((laws_markJacobi.f kj15 t966 t967 t970 1).bind fun bt994 => ((laws_markInt64S.f kj15 t974 bt994.1).bind fun bt997 => (if bt997.1 < 0 then (laws_FnExactSumBy.j1 kj15 l1 t962 t965 t977 true a0_0 l0_1 l0_2) else ((laws_eqInt64S.f kj15 t977 t962).bind fun t999 => (if t999 = true then (laws_FnExactSumBy.j1 kj15 l1 t962 t965 t977 (t980 != t965) a0_0 l0_1 l0_2) else (laws_FnExactSumBy.j1 kj15 l1 t962 t965 t977 true a0_0 l0_1 l0_2)))))) else (some false)))) else (some false))) = some r := H
      have A45 := Aside0.mk A450
      clear A450
      replace H := Option.bind_eq_some_iff.mp H
      obtain ⟨t989, A460, H⟩ := H
      replace H : (if t989 = true then ((laws_toInt64S.f kj15 l1).bind fun t990 => ((laws_eqInt64S.f kj15 t974 t990).bind fun t993 => (if t993 = true then ((laws_markJacobi.f kj15 t966 t967 t970 1).bind fun bt994 => ((laws_markInt64S.f kj15 t974 bt994.1).bind fun bt997 => (if bt997.1 < 0 then (laws_FnExactSumBy.j1 kj15 l1 t962 t965 t977 true a0_0 l0_1 l0_2) else ((laws_eqInt64S.f kj15 t977 t962).bind fun t999 => (if t999 = true then (laws_FnExactSumBy.j1 kj15 l1 t962 t965 t977 (t980 != t965) a0_0 l0_1 l0_2) else (laws_FnExactSumBy.j1 kj15 l1 t962 t965 t977 true a0_0 l0_1 l0_2)))))) else (some false)))) else (some false)) = some r := H
      have A46 := Aside0.mk A460
      clear A460
      by_cases c47 : t989 = true
      ·subst c47
       have H1 : ((laws_toInt64S.f kj15 l1).bind fun t990 => ((laws_eqInt64S.f kj15 t974 t990).bind fun t993 => (if t993 = true then ((laws_markJacobi.f kj15 t966 t967 t970 1).bind fun bt994 => ((laws_markInt64S.f kj15 t974 bt994.1).bind fun bt997 => (if bt997.1 < 0 then (laws_FnExactSumBy.j1 kj15 l1 t962 t965 t977 true a0_0 l0_1 l0_2) else ((laws_eqInt64S.f kj15 t977 t962).bind fun t999 => (if t999 = true then (laws_FnExactSumBy.j1 kj15 l1 t962 t965 t977 (t980 != t965) a0_0 l0_1 l0_2) else (laws_FnExactSumBy.j1 kj15 l1 t962 t965 t977 true a0_0 l0_1 l0_2)))))) else (some false)))) = some r := by rw [if_pos rfl] at H; exact H
       clear H
       have H := H1
       clear H1
       replace H := Option.bind_eq_some_iff.mp H
       obtain ⟨t990, A480, H⟩ := H
       replace H : ((laws_eqInt64S.f kj15 t974 t990).bind fun t993 => (if t993 = true then ((laws_markJacobi.f kj15 t966 t967 t970 1).bind fun bt994 => ((laws_markInt64S.f kj15 t974 bt994.1).bind fun bt997 => (if bt997.1 < 0 then (laws_FnExactSumBy.j1 kj15 l1 t962 t965 t977 true a0_0 l0_1 l0_2) else ((laws_eqInt64S.f kj15 t977 t962).bind fun t999 => (if t999 = true then (laws_FnExactSumBy.j1 kj15 l1 t962 t965 t977 (t980 != t965) a0_0 l0_1 l0_2) else (laws_FnExactSumBy.j1 kj15 l1 t962 t965 t977 true a0_0 l0_1 l0_2)))))) else (some false))) = some r := H
       have A48 := Aside0.mk A480
       clear A480
       replace H := Option.bind_eq_some_iff.mp H
       obtain ⟨t993, A490, H⟩ := H
       replace H : (if t993 = true then ((laws_markJacobi.f kj15 t966 t967 t970 1).bind fun bt994 => ((laws_markInt64S.f kj15 t974 bt994.1).bind fun bt997 => (if bt997.1 < 0 then (laws_FnExactSumBy.j1 kj15 l1 t962 t965 t977 true a0_0 l0_1 l0_2) else ((laws_eqInt64S.f kj15 t977 t962).bind fun t999 => (if t999 = true then (laws_FnExactSumBy.j1 kj15 l1 t962 t965 t977 (t980 != t965) a0_0 l0_1 l0_2) else (laws_FnExactSumBy.j1 kj15 l1 t962 t965 t977 true a0_0 l0_1 l0_2)))))) else (some false)) = some r := H
       have A49 := Aside0.mk A490
       clear A490
       by_cases c50 : t993 = true
       ·subst c50
        have H1 : ((laws_markJacobi.f kj15 t966 t967 t970 1).bind fun bt994 => ((laws_markInt64S.f kj15 t974 bt994.1).bind fun bt997 => (if bt997.1 < 0 then (laws_FnExactSumBy.j1 kj15 l1 t962 t965 t977 true a0_0 l0_1 l0_2) else ((laws_eqInt64S.f kj15 t977 t962).bind fun t999 => (if t999 = true then (laws_FnExactSumBy.j1 kj15 l1 t962 t965 t977 (t980 != t965) a0_0 l0_1 l0_2) else (laws_FnExactSumBy.j1 kj15 l1 t962 t965 t977 true a0_0 l0_1 l0_2)))))) = some r := by rw [if_pos rfl] at H; exact H
        clear H
        have H := H1
        clear H1
        replace H := Option.bind_eq_some_iff.mp H
        obtain ⟨⟨t994, t995, t996⟩, A510, H⟩ := H
        replace H : ((laws_markInt64S.f kj15 t974 t994).bind fun bt997 => (if bt997.1 < 0 then (laws_FnExactSumBy.j1 kj15 l1 t962 t965 t977 true a0_0 l0_1 l0_2) else ((laws_eqInt64S.f kj15 t977 t962).bind fun t999 => (if t999 = true then (laws_FnExactSumBy.j1 kj15 l1 t962 t965 t977 (t980 != t965) a0_0 l0_1 l0_2) else (laws_FnExactSumBy.j1 kj15 l1 t962 t965 t977 true a0_0 l0_1 l0_2))))) = some r := H
        have A51 := Aside0.mk A510
        clear A510
        replace H := Option.bind_eq_some_iff.mp H
        obtain ⟨⟨t997, t998⟩, A520, H⟩ := H
        replace H : (if t997 < 0 then (laws_FnExactSumBy.j1 kj15 l1 t962 t965 t977 true a0_0 l0_1 l0_2) else ((laws_eqInt64S.f kj15 t977 t962).bind fun t999 => (if t999 = true then (laws_FnExactSumBy.j1 kj15 l1 t962 t965 t977 (t980 != t965) a0_0 l0_1 l0_2) else (laws_FnExactSumBy.j1 kj15 l1 t962 t965 t977 true a0_0 l0_1 l0_2)))) = some r := H
        have A52 := Aside0.mk A520
        clear A520
        have HC53 := Aside0.mk H
        clear H
        try go_wp2
        have n0_ := Aside0.mk (Kd.R_drew HO_6.out)
        have n1_ := Aside0.mk (Kd.R_drew HO_9.out)
        have n2_ := Aside0.mk (Kd.R_drew HO_10.out)
        have n3_ := Aside0.mk (Kd.R_drew HO_974001.out)
        have n4_ := Aside0.mk (Kd.R_drew HO_974002.out)
        have n5_ := Aside0.mk (blk_drew BK950.out)
        have n6_ := Aside0.mk (blk_drew BK973.out)
        have n7_ := Aside0.mk (below_drew1 HB.out)
        clear HO_6
        clear HO_9
        clear HO_10
        clear HO_974001
        clear HO_974002
        clear BK950
        clear BK973
        clear HB
        have HO_6 := n0_
        have HO_9 := n1_
        have HO_10 := n2_
        have HO_974001 := n3_
        have HO_974002 := n4_
        have BK950 := n5_
        have BK973 := n6_
        have HB := n7_
        clear n0_ n1_ n2_ n3_ n4_ n5_ n6_ n7_
        refine start_ (n := 5) (S := fun w' => w'.cell? ⟨gb973, 0, none⟩ = some (.int .i64 t966) ∧ w'.cell? ⟨gb973, 1, none⟩ = some (.slice Ao32 t967.length co32) ∧ w'.cell? ⟨gb973, 2, none⟩ = some (.slice Ao33 t970.length co33) ∧ w'.cell? ⟨gb950, 0, none⟩ = some (.int .i64 a0_0) ∧ w'.cell? ⟨gb950, 1, none⟩ = some (.slice A0_1 l0_1.length c0_1) ∧ w'.cell? ⟨gb950, 2, none⟩ = some (.slice A0_2 l0_2.length c0_2)) (ds := []) #[false, false, false, false, false] (by kernel_rfl) rfl rfl ⟨(blk_cell BK973.out 0).trans rfl, (blk_cell BK973.out 1).trans rfl, (blk_cell BK973.out 2).trans rfl, (blk_cell BK950.out 0).trans rfl, (blk_cell BK950.out 1).trans rfl, (blk_cell BK950.out 2).trans rfl⟩ (fun hHeld => ?_)
        generalize wc.drew = w54 at HO_6 HO_9 HO_10 HO_974001 HO_974002 BK950 BK973 HB hHeld ⊢
        refine Zt6 0 (some 52) hHeld (h := ?_)
        refine Zt6 1 (some 53) hHeld (h := ?_)
        refine one_ (i := 2) (N := some 54) #[true, true, true, false, false] rfl rfl (by kernel_rfl) (by decide) (fun K hK => ?_)
        refine goes_ Try.func16 (by kernel_rfl) rfl #[.agg #[.int .i64 a0_0, .slice A0_1 l0_1.length c0_1, .slice A0_2 l0_2.length c0_2]] (by rfl) rfl rfl ZA ?_
        with_reducible refine (laws_toJacobi.calls kj15 a0_0 _ _ l0_1 _ _ l0_2 t982 t983 t986 _ ?side1 ?side2 ?side3 ?side4 A45.out).mono ?_
        (case side1 => exact ZC HR0_1)
        (case side2 => exact HC0_1.out)
        (case side3 => exact ZC HR0_2)
        (case side4 => exact HC0_2.out)
        rintro e w55 ⟨v984, v987, rfl, ho0, ho1, hb⟩
        refine ⟨_, rfl, ?_⟩
        have n0_ := Aside0.mk (Kd.R_mono (Kd.R_told (Kd.R_told (Kd.R_old (ZR HO_6) hb) (Kd.R_base ho0)) (Kd.R_base ho1)) (fun _ h_ => h_.1))
        have n1_ := Aside0.mk (Kd.R_mono (Kd.R_told (Kd.R_told (Kd.R_old (ZR HO_9) hb) (Kd.R_base ho0)) (Kd.R_base ho1)) (fun _ h_ => h_.1))
        have n2_ := Aside0.mk (Kd.R_mono (Kd.R_told (Kd.R_told (Kd.R_old (ZR HO_10) hb) (Kd.R_base ho0)) (Kd.R_base ho1)) (fun _ h_ => h_.1))
        have n3_ := Aside0.mk (Kd.R_mono (Kd.R_told (Kd.R_told (Kd.R_old (ZR HO_974001) hb) (Kd.R_base ho0)) (Kd.R_base ho1)) (fun _ h_ => h_.1))
        have n4_ := Aside0.mk (Kd.R_mono (Kd.R_told (Kd.R_told (Kd.R_old (ZR HO_974002) hb) (Kd.R_base ho0)) (Kd.R_base ho1)) (fun _ h_ => h_.1))
        have n5_ := Aside0.mk (Kd.R_lower (Kd.R_new' (Kd.R_new' (Kd.R_new' (Kd.R_new' (Kd.R_new' ho0 (Kd.R_lt (ZR HO_6))) (Kd.R_lt (ZR HO_9))) (Kd.R_lt (ZR HO_10))) (Kd.R_lt (ZR HO_974001))) (Kd.R_lt (ZR HO_974002))) (below_size ZB))
        have n6_ := Aside0.mk (Kd.R_lower (Kd.R_new' (Kd.R_new' (Kd.R_new' (Kd.R_new' (Kd.R_new' ho1 (Kd.R_lt (ZR HO_6))) (Kd.R_lt (ZR HO_9))) (Kd.R_lt (ZR HO_10))) (Kd.R_lt (ZR HO_974001))) (Kd.R_lt (ZR HO_974002))) (below_size ZB))
        have n7_ := ZL BK950 hb
        have n8_ := ZL BK973 hb
        have n9_ := Aside0.mk (below_step ZB hb)
        clear HO_6
        clear HO_9
        clear HO_10
        clear HO_974001
        clear HO_974002
        clear BK950
        clear BK973
        clear HB
        have HO_6 := n0_
        have HO_9 := n1_
        have HO_10 := n2_
        have HO_974001 := n3_
        have HO_974002 := n4_
        have HO985 := n5_
        have HO988 := n6_
        have BK950 := n7_
        have BK973 := n8_
        have HB := n9_
        clear n0_ n1_ n2_ n3_ n4_ n5_ n6_ n7_ n8_ n9_
        (try clear hb)
        (try clear hb2)
        (try clear hk)
        (try clear hi)
        (try clear ho0)
        (try clear ho1)
        obtain ⟨Ao56, co56, eo56⟩ := Kd.R_slice HO985.out
        (first | subst eo56 | (injection eo56 with f1_ f2_ f3_; have f4_ := f1_.symm; have f5_ := f3_.symm; clear f1_ f2_ f3_; subst f4_; subst f5_))
        obtain ⟨Ao57, co57, eo57⟩ := Kd.R_slice HO988.out
        (first | subst eo57 | (injection eo57 with f1_ f2_ f3_; have f4_ := f1_.symm; have f5_ := f3_.symm; clear f1_ f2_ f3_; subst f4_; subst f5_))
        refine hK.out _ _ ⟨(blk_cell BK973.out 0).trans rfl, (blk_cell BK973.out 1).trans rfl, (blk_cell BK973.out 2).trans rfl, (blk_cell BK950.out 0).trans rfl, (blk_cell BK950.out 1).trans rfl, (blk_cell BK950.out 2).trans rfl⟩ (fun hHeld => ?_)
        clear hK K
        refine norm_ (a' := ?_) ?_ ?_
        rotate_left
        ·show Act.put _ (some 54) _ = _
         simp only [Act.put, List.setIfInBounds_toArray, List.set_cons_zero, List.set_cons_succ, i64_w, i32_w]
         rfl
        refine one_ (i := 3) (N := some 55) #[true, true, true, true, false] rfl rfl (by kernel_rfl) (by decide) (fun K hK => ?_)
        refine goes_ Try.func19 (by kernel_rfl) rfl #[.agg #[.int .i64 t966, .slice Ao32 t967.length co32, .slice Ao33 t970.length co33], .agg #[.int .i64 t982, .slice Ao56 t983.length co56, .slice Ao57 t986.length co57]] (by rfl) rfl rfl ZA ?_
        with_reducible refine (laws_eqJacobi.calls kj15 t966 _ _ t967 _ _ t970 t982 _ _ t983 _ _ t986 true _ ?side1 ?side2 ?side3 ?side4 ?side5 ?side6 ?side7 ?side8 A46.out).mono ?_
        (case side1 => repeat (first | exact (Kd.R_reads' HO_974001.out).2.2 | (with_reducible refine Kd.C_alloc ?_ _) | (with_reducible refine Kd.C_drewN ?_ _) | (with_reducible refine Kd.C_drew ?_)))
        (case side2 => exact (Kd.R_reads' HO_974001.out).2.1)
        (case side3 => repeat (first | exact (Kd.R_reads' HO_974002.out).2.2 | (with_reducible refine Kd.C_alloc ?_ _) | (with_reducible refine Kd.C_drewN ?_ _) | (with_reducible refine Kd.C_drew ?_)))
        (case side4 => exact (Kd.R_reads' HO_974002.out).2.1)
        (case side5 => repeat (first | exact (Kd.R_reads' HO985.out).2.2 | (with_reducible refine Kd.C_alloc ?_ _) | (with_reducible refine Kd.C_drewN ?_ _) | (with_reducible refine Kd.C_drew ?_)))
        (case side6 => exact (Kd.R_reads' HO985.out).2.1)
        (case side7 => repeat (first | exact (Kd.R_reads' HO988.out).2.2 | (with_reducible refine Kd.C_alloc ?_ _) | (with_reducible refine Kd.C_drewN ?_ _) | (with_reducible refine Kd.C_drew ?_)))
        (case side8 => exact (Kd.R_reads' HO988.out).2.1)
        rintro e w58 ⟨rfl, hb⟩
        refine ⟨_, rfl, ?_⟩
        have n0_ := Aside0.mk (Kd.R_below (ZR HO_6) hb)
        have n1_ := Aside0.mk (Kd.R_below (ZR HO_9) hb)
        have n2_ := Aside0.mk (Kd.R_below (ZR HO_10) hb)
        have n3_ := Aside0.mk (Kd.R_below (ZR HO_974001) hb)
        have n4_ := Aside0.mk (Kd.R_below (ZR HO_974002) hb)
        have n5_ := Aside0.mk (Kd.R_below (ZR HO985) hb)
        have n6_ := Aside0.mk (Kd.R_below (ZR HO988) hb)
        have n7_ := ZL BK950 hb
        have n8_ := ZL BK973 hb
        have n9_ := Aside0.mk (below_step ZB hb)
        clear HO_6
        clear HO_9
        clear HO_10
        clear HO_974001
        clear HO_974002
        clear HO985
        clear HO988
        clear BK950
        clear BK973
        clear HB
        have HO_6 := n0_
        have HO_9 := n1_
        have HO_10 := n2_
        have HO_974001 := n3_
        have HO_974002 := n4_
        have HO985 := n5_
        have HO988 := n6_
        have BK950 := n7_
        have BK973 := n8_
        have HB := n9_
        clear n0_ n1_ n2_ n3_ n4_ n5_ n6_ n7_ n8_ n9_
        (try clear hb)
        (try clear hb2)
        (try clear hk)
        (try clear hi)
        refine hK.out _ _ ⟨(blk_cell BK973.out 0).trans rfl, (blk_cell BK973.out 1).trans rfl, (blk_cell BK973.out 2).trans rfl, (blk_cell BK950.out 0).trans rfl, (blk_cell BK950.out 1).trans rfl, (blk_cell BK950.out 2).trans rfl⟩ (fun hHeld => ?_)
        clear hK K
        refine norm_ (a' := ?_) ?_ ?_
        rotate_left
        ·show Act.put _ (some 55) _ = _
         simp only [Act.put, List.setIfInBounds_toArray, List.set_cons_zero, List.set_cons_succ, i64_w, i32_w]
         rfl
        refine Zp 4 (some 56) (h := ?_)
        refine done_ (by kernel_rfl) ?_
        go_upto_region 20 with (first | ((with_reducible refine gate_callee (f := 27) rfl ?_); refine goesL_ (some 59) rfl rfl Try.func27 (by kernel_rfl) rfl #[.slice A1 l1.length c1] rfl ZA ?_; (with_reducible refine (laws_toInt64S.calls kj15 _ _ l1 t990 _ ?side1 ?side2 A48.out).mono ?_); (case side1 => exact ZC HR1); (case side2 => exact HC1.out); rintro e w59 ⟨v991, rfl, ho0, hb⟩; refine ⟨_, rfl, ?_⟩; have n0_ := Aside0.mk (Kd.R_elder' (ZR HO_6) (Kd.R_base ho0) hb); have n1_ := Aside0.mk (Kd.R_elder' (ZR HO_9) (Kd.R_base ho0) hb); have n2_ := Aside0.mk (Kd.R_elder' (ZR HO_10) (Kd.R_base ho0) hb); have n3_ := Aside0.mk (Kd.R_elder' (ZR HO_974001) (Kd.R_base ho0) hb); have n4_ := Aside0.mk (Kd.R_elder' (ZR HO_974002) (Kd.R_base ho0) hb); have n5_ := Aside0.mk (Kd.R_elder' (ZR HO985) (Kd.R_base ho0) hb); have n6_ := Aside0.mk (Kd.R_elder' (ZR HO988) (Kd.R_base ho0) hb); have n7_ := Aside0.mk (Kd.R_lower (Kd.R_new' (Kd.R_new' (Kd.R_new' (Kd.R_new' (Kd.R_new' (Kd.R_new' (Kd.R_new' ho0 (Kd.R_lt (ZR HO_6))) (Kd.R_lt (ZR HO_9))) (Kd.R_lt (ZR HO_10))) (Kd.R_lt (ZR HO_974001))) (Kd.R_lt (ZR HO_974002))) (Kd.R_lt (ZR HO985))) (Kd.R_lt (ZR HO988))) (below_size ZB)); have n8_ := ZL BK950 hb; have n9_ := ZL BK973 hb; have n10_ := Aside0.mk (below_step ZB hb); clear HO_6; clear HO_9; clear HO_10; clear HO_974001; clear HO_974002; clear HO985; clear HO988; clear BK950; clear BK973; clear HB; have HO_6 := n0_; have HO_9 := n1_; have HO_10 := n2_; have HO_974001 := n3_; have HO_974002 := n4_; have HO985 := n5_; have HO988 := n6_; have HO992 := n7_; have BK950 := n8_; have BK973 := n9_; have HB := n10_; clear n0_ n1_ n2_ n3_ n4_ n5_ n6_ n7_ n8_ n9_ n10_; (try clear hb); (try clear hb2); (try clear hk); (try clear hi); (try clear ho0); obtain ⟨Ao60, co60, eo60⟩ := Kd.R_slice HO992.out; subst eo60) | ((with_reducible refine gate_callee (f := 29) rfl ?_); refine goesL_ (some 60) rfl rfl Try.func29 (by kernel_rfl) rfl #[.slice Ao36 t974.length co36, .slice Ao60 t990.length co60] rfl ZA ?_; (with_reducible refine (laws_eqInt64S.calls kj15 _ _ t974 _ _ t990 true _ ?side1 ?side2 ?side3 ?side4 A49.out).mono ?_); (case side1 => repeat (first | exact (Kd.R_reads' HO_9.out).2.2 | (with_reducible refine Kd.C_alloc ?_ _) | (with_reducible refine Kd.C_drewN ?_ _) | (with_reducible refine Kd.C_drew ?_))); (case side2 => exact (Kd.R_reads' HO_9.out).2.1); (case side3 => repeat (first | exact (Kd.R_reads' HO992.out).2.2 | (with_reducible refine Kd.C_alloc ?_ _) | (with_reducible refine Kd.C_drewN ?_ _) | (with_reducible refine Kd.C_drew ?_))); (case side4 => exact (Kd.R_reads' HO992.out).2.1); rintro e w' ⟨rfl, ⟨nd, rfl⟩⟩; refine ⟨_, rfl, ?_⟩; have hnb61 := NB973_950.out; have hnc61 := NB950_973.out; obtain ⟨hcz62_0, hcz62_1, hcz62_2, hfz62_0, hfz62_1, hfz62_2⟩ := ZD3 BK973) | ((with_reducible refine gate_callee (f := 20) rfl ?_); refine goesL_ (some 64) rfl rfl Try.func20 (by kernel_rfl) rfl #[.agg #[.int .i64 t966, .slice Ao32 t967.length co32, .slice Ao33 t970.length co33], .int .i64 1] rfl ZA ?_; (with_reducible refine (laws_markJacobi.calls kj15 t966 (fun k_ => some k_ = (.slice Ao32 t967.length co32 : Value).ownBlock) (.slice Ao32 t967.length co32) t967 (fun k_ => some k_ = (.slice Ao33 t970.length co33 : Value).ownBlock) (.slice Ao33 t970.length co33) t970 1 t994 t995 t996 w _ ?side1 ?side2 ?side3 ?side4 ?side5 A51.out).mono ?_); (case side1 => repeat (first | (with_reducible first | exact HB.out | apply below_alloc | apply pw_below_drewN | apply below_drew1 | refine below_set ?_ GE950.out | refine below_set ?_ GE973.out) | exact HB.out)); (case side2 => exact Kd.R_tight rfl HO_974001.out); (case side3 => exact fun k_ e_ => (HO_974001.out.1 k_ e_.symm).1.1.1.2.2.2); (case side4 => exact Kd.R_tight rfl HO_974002.out); (case side5 => exact fun k_ e_ => (HO_974002.out.1 k_ e_.symm).1.1.1.2.2.2); rintro e w63 ⟨rfl, hy0, hy1, hb, hkp⟩; refine ⟨_, rfl, ?_⟩; have n0_ := Aside0.mk (Kd.R_mono (ok' := fun k_ => some k_ ≠ (.slice Ao36 t974.length co36 : Value).ownBlock ∧ some k_ ≠ (v978 : Value).ownBlock ∧ some k_ ≠ (.slice Ao32 t967.length co32 : Value).ownBlock ∧ some k_ ≠ (.slice Ao33 t970.length co33 : Value).ownBlock ∧ some k_ ≠ (.slice Ao56 t983.length co56 : Value).ownBlock ∧ some k_ ≠ (.slice Ao57 t986.length co57 : Value).ownBlock ∧ some k_ ≠ (.slice Ao60 t990.length co60 : Value).ownBlock) (Kd.R_keptB (HO_6.out) hkp (fun k_ hk_ hs_ => Or.elim hs_ (fun e_ => (hk_.1.1.1.2.2.1) e_) (fun e_ => (hk_.1.1.1.2.2.2) e_))) (fun k_ hk_ => ⟨hk_.1.1.1.1.1, hk_.1.1.1.1.2.1, hk_.1.1.1.1.2.2.1, hk_.1.1.1.1.2.2.2, hk_.1.1.1.2, hk_.1.1.2, hk_.1.2⟩)); have n1_ := Aside0.mk (Kd.R_mono (ok' := fun k_ => some k_ ≠ (v963 : Value).ownBlock ∧ some k_ ≠ (v978 : Value).ownBlock ∧ some k_ ≠ (.slice Ao32 t967.length co32 : Value).ownBlock ∧ some k_ ≠ (.slice Ao33 t970.length co33 : Value).ownBlock ∧ some k_ ≠ (.slice Ao56 t983.length co56 : Value).ownBlock ∧ some k_ ≠ (.slice Ao57 t986.length co57 : Value).ownBlock ∧ some k_ ≠ (.slice Ao60 t990.length co60 : Value).ownBlock) (Kd.R_keptB (HO_9.out) hkp (fun k_ hk_ hs_ => Or.elim hs_ (fun e_ => (hk_.1.1.1.2.2.1) e_) (fun e_ => (hk_.1.1.1.2.2.2) e_))) (fun k_ hk_ => ⟨hk_.1.1.1.1.1, hk_.1.1.1.1.2.1, hk_.1.1.1.1.2.2.1, hk_.1.1.1.1.2.2.2, hk_.1.1.1.2, hk_.1.1.2, hk_.1.2⟩)); have n2_ := Aside0.mk (Kd.R_mono (ok' := fun k_ => some k_ ≠ (v963 : Value).ownBlock ∧ some k_ ≠ (.slice Ao36 t974.length co36 : Value).ownBlock ∧ some k_ ≠ (.slice Ao32 t967.length co32 : Value).ownBlock ∧ some k_ ≠ (.slice Ao33 t970.length co33 : Value).ownBlock ∧ some k_ ≠ (.slice Ao56 t983.length co56 : Value).ownBlock ∧ some k_ ≠ (.slice Ao57 t986.length co57 : Value).ownBlock ∧ some k_ ≠ (.slice Ao60 t990.length co60 : Value).ownBlock) (Kd.R_keptB (HO_10.out) hkp (fun k_ hk_ hs_ => Or.elim hs_ (fun e_ => (hk_.1.1.1.2.2.1) e_) (fun e_ => (hk_.1.1.1.2.2.2) e_))) (fun k_ hk_ => ⟨hk_.1.1.1.1.1, hk_.1.1.1.1.2.1, hk_.1.1.1.1.2.2.1, hk_.1.1.1.1.2.2.2, hk_.1.1.1.2, hk_.1.1.2, hk_.1.2⟩)); have n3_ := Aside0.mk (Kd.R_reok rfl hy0 (fun k_ e_ => HO_974001.out.1 k_ e_)); have n4_ := Aside0.mk (Kd.R_reok rfl hy1 (fun k_ e_ => HO_974002.out.1 k_ e_)); have n5_ := Aside0.mk (blk_kept (ZK BK950) hkp (fun hs_ => Or.elim hs_ (fun e_ => (fun e_ => (Kd.R_ne HO_974001.out BK950.out (by decide)) e_) e_) (fun e_ => (fun e_ => (Kd.R_ne HO_974002.out BK950.out (by decide)) e_) e_))); have n6_ := Aside0.mk (blk_kept (ZK BK973) hkp (fun hs_ => Or.elim hs_ (fun e_ => (fun e_ => (Kd.R_ne HO_974001.out BK973.out (by decide)) e_) e_) (fun e_ => (fun e_ => (Kd.R_ne HO_974002.out BK973.out (by decide)) e_) e_))); have n7_ := Aside0.mk (Kd.R_mono (ok' := fun k_ => some k_ ≠ (v963 : Value).ownBlock ∧ some k_ ≠ (.slice Ao36 t974.length co36 : Value).ownBlock ∧ some k_ ≠ (v978 : Value).ownBlock ∧ some k_ ≠ (.slice Ao32 t967.length co32 : Value).ownBlock ∧ some k_ ≠ (.slice Ao33 t970.length co33 : Value).ownBlock ∧ some k_ ≠ (.slice Ao57 t986.length co57 : Value).ownBlock ∧ some k_ ≠ (.slice Ao60 t990.length co60 : Value).ownBlock) (Kd.R_keptB (HO985.out) hkp (fun k_ hk_ hs_ => Or.elim hs_ (fun e_ => (hk_.1.1.2) e_) (fun e_ => (hk_.1.2) e_))) (fun k_ hk_ => ⟨hk_.1.1.1.1.1.1.2, hk_.1.1.1.1.1.2, hk_.1.1.1.1.2, hk_.1.1.1.2, hk_.1.1.2, hk_.1.1.1.1.1.1.1, hk_.1.2⟩)); have n8_ := Aside0.mk (Kd.R_mono (ok' := fun k_ => some k_ ≠ (v963 : Value).ownBlock ∧ some k_ ≠ (.slice Ao36 t974.length co36 : Value).ownBlock ∧ some k_ ≠ (v978 : Value).ownBlock ∧ some k_ ≠ (.slice Ao32 t967.length co32 : Value).ownBlock ∧ some k_ ≠ (.slice Ao33 t970.length co33 : Value).ownBlock ∧ some k_ ≠ (.slice Ao56 t983.length co56 : Value).ownBlock ∧ some k_ ≠ (.slice Ao60 t990.length co60 : Value).ownBlock) (Kd.R_keptB (HO988.out) hkp (fun k_ hk_ hs_ => Or.elim hs_ (fun e_ => (hk_.1.1.2) e_) (fun e_ => (hk_.1.2) e_))) (fun k_ hk_ => ⟨hk_.1.1.1.1.1.1.2, hk_.1.1.1.1.1.2, hk_.1.1.1.1.2, hk_.1.1.1.2, hk_.1.1.2, hk_.1.1.1.1.1.1.1, hk_.1.2⟩)); have n9_ := Aside0.mk (Kd.R_mono (ok' := fun k_ => some k_ ≠ (v963 : Value).ownBlock ∧ some k_ ≠ (.slice Ao36 t974.length co36 : Value).ownBlock ∧ some k_ ≠ (v978 : Value).ownBlock ∧ some k_ ≠ (.slice Ao32 t967.length co32 : Value).ownBlock ∧ some k_ ≠ (.slice Ao33 t970.length co33 : Value).ownBlock ∧ some k_ ≠ (.slice Ao56 t983.length co56 : Value).ownBlock ∧ some k_ ≠ (.slice Ao57 t986.length co57 : Value).ownBlock) (Kd.R_keptB (HO992.out) hkp (fun k_ hk_ hs_ => Or.elim hs_ (fun e_ => (hk_.1.1.1.2) e_) (fun e_ => (hk_.1.1.2) e_))) (fun k_ hk_ => ⟨hk_.1.1.1.1.1.1.1.2, hk_.1.1.1.1.1.1.2, hk_.1.1.1.1.1.2, hk_.1.1.1.1.2, hk_.1.1.1.2, hk_.1.1.2, hk_.1.2⟩)); have n10_ := Aside0.mk (hb); clear HO_6; clear HO_9; clear HO_10; clear HO_974001; clear HO_974002; clear BK950; clear BK973; clear HO985; clear HO988; clear HO992; clear HB; have HO_6 := n0_; have HO_9 := n1_; have HO_10 := n2_; have HO_974001 := n3_; have HO_974002 := n4_; have BK950 := n5_; have BK973 := n6_; have HO985 := n7_; have HO988 := n8_; have HO992 := n9_; have HB := n10_; clear n0_ n1_ n2_ n3_ n4_ n5_ n6_ n7_ n8_ n9_ n10_; (try clear hb); (try clear hkp); (try clear hy0); (try clear hy1)) | ((with_reducible refine gate_callee (f := 30) rfl ?_); refine goesL_ (some 67) rfl rfl Try.func30 (by kernel_rfl) rfl #[.slice Ao36 t974.length co36, .int .i64 t994] rfl ZA ?_; (with_reducible refine (laws_markInt64S.calls kj15 (fun k_ => some k_ = (.slice Ao36 t974.length co36 : Value).ownBlock) (.slice Ao36 t974.length co36) t974 t994 t997 t998 w _ ?side1 ?side2 A52.out).mono ?_); (case side1 => repeat (first | (with_reducible first | exact HB.out | apply below_alloc | apply pw_below_drewN | apply below_drew1 | refine below_set ?_ GE950.out | refine below_set ?_ GE973.out) | exact HB.out)); (case side2 => exact Kd.R_tight rfl HO_9.out); rintro e w64 ⟨rfl, hy0, hb, hkp⟩; refine ⟨_, rfl, ?_⟩; have n0_ := Aside0.mk (Kd.R_mono (ok' := fun k_ => some k_ ≠ (.slice Ao36 t974.length co36 : Value).ownBlock ∧ some k_ ≠ (v978 : Value).ownBlock ∧ some k_ ≠ (.slice Ao32 t967.length co32 : Value).ownBlock ∧ some k_ ≠ (.slice Ao33 t970.length co33 : Value).ownBlock ∧ some k_ ≠ (.slice Ao56 t983.length co56 : Value).ownBlock ∧ some k_ ≠ (.slice Ao57 t986.length co57 : Value).ownBlock ∧ some k_ ≠ (.slice Ao60 t990.length co60 : Value).ownBlock) (Kd.R_keptB (HO_6.out) hkp (fun k_ hk_ hs_ => (hk_.1) hs_)) (fun k_ hk_ => ⟨hk_.1.1, hk_.1.2.1, hk_.1.2.2.1, hk_.1.2.2.2.1, hk_.1.2.2.2.2.1, hk_.1.2.2.2.2.2.1, hk_.1.2.2.2.2.2.2⟩)); have n1_ := Aside0.mk (Kd.R_reok rfl hy0 (fun k_ e_ => HO_9.out.1 k_ e_)); have n2_ := Aside0.mk (Kd.R_mono (ok' := fun k_ => some k_ ≠ (v963 : Value).ownBlock ∧ some k_ ≠ (.slice Ao36 t974.length co36 : Value).ownBlock ∧ some k_ ≠ (.slice Ao32 t967.length co32 : Value).ownBlock ∧ some k_ ≠ (.slice Ao33 t970.length co33 : Value).ownBlock ∧ some k_ ≠ (.slice Ao56 t983.length co56 : Value).ownBlock ∧ some k_ ≠ (.slice Ao57 t986.length co57 : Value).ownBlock ∧ some k_ ≠ (.slice Ao60 t990.length co60 : Value).ownBlock) (Kd.R_keptB (HO_10.out) hkp (fun k_ hk_ hs_ => (hk_.2.1) hs_)) (fun k_ hk_ => ⟨hk_.1.1, hk_.1.2.1, hk_.1.2.2.1, hk_.1.2.2.2.1, hk_.1.2.2.2.2.1, hk_.1.2.2.2.2.2.1, hk_.1.2.2.2.2.2.2⟩)); have n3_ := Aside0.mk (Kd.R_mono (ok' := fun k_ => some k_ ≠ (v963 : Value).ownBlock ∧ some k_ ≠ (.slice Ao36 t974.length co36 : Value).ownBlock ∧ some k_ ≠ (v978 : Value).ownBlock ∧ some k_ ≠ (.slice Ao33 t970.length co33 : Value).ownBlock ∧ some k_ ≠ (.slice Ao56 t983.length co56 : Value).ownBlock ∧ some k_ ≠ (.slice Ao57 t986.length co57 : Value).ownBlock ∧ some k_ ≠ (.slice Ao60 t990.length co60 : Value).ownBlock) (Kd.R_keptB (HO_974001.out) hkp (fun k_ hk_ hs_ => (hk_.1.1.1.2.1) hs_)) (fun k_ hk_ => ⟨hk_.1.1.1.1.1, hk_.1.1.1.1.2.1, hk_.1.1.1.1.2.2.1, hk_.1.1.1.1.2.2.2, hk_.1.1.1.2, hk_.1.1.2, hk_.1.2⟩)); have n4_ := Aside0.mk (Kd.R_mono (ok' := fun k_ => some k_ ≠ (v963 : Value).ownBlock ∧ some k_ ≠ (.slice Ao36 t974.length co36 : Value).ownBlock ∧ some k_ ≠ (v978 : Value).ownBlock ∧ some k_ ≠ (.slice Ao32 t967.length co32 : Value).ownBlock ∧ some k_ ≠ (.slice Ao56 t983.length co56 : Value).ownBlock ∧ some k_ ≠ (.slice Ao57 t986.length co57 : Value).ownBlock ∧ some k_ ≠ (.slice Ao60 t990.length co60 : Value).ownBlock) (Kd.R_keptB (HO_974002.out) hkp (fun k_ hk_ hs_ => (hk_.1.1.1.2.1) hs_)) (fun k_ hk_ => ⟨hk_.1.1.1.1.1, hk_.1.1.1.1.2.1, hk_.1.1.1.1.2.2.1, hk_.1.1.1.1.2.2.2, hk_.1.1.1.2, hk_.1.1.2, hk_.1.2⟩)); have n5_ := Aside0.mk (blk_kept (ZK BK950) hkp (fun hs_ => (fun e_ => (Kd.R_ne HO_9.out BK950.out (by decide)) e_) hs_)); have n6_ := Aside0.mk (blk_kept (ZK BK973) hkp (fun hs_ => (fun e_ => (Kd.R_ne HO_9.out BK973.out (by decide)) e_) hs_)); have n7_ := Aside0.mk (Kd.R_mono (ok' := fun k_ => some k_ ≠ (v963 : Value).ownBlock ∧ some k_ ≠ (.slice Ao36 t974.length co36 : Value).ownBlock ∧ some k_ ≠ (v978 : Value).ownBlock ∧ some k_ ≠ (.slice Ao32 t967.length co32 : Value).ownBlock ∧ some k_ ≠ (.slice Ao33 t970.length co33 : Value).ownBlock ∧ some k_ ≠ (.slice Ao57 t986.length co57 : Value).ownBlock ∧ some k_ ≠ (.slice Ao60 t990.length co60 : Value).ownBlock) (Kd.R_keptB (HO985.out) hkp (fun k_ hk_ hs_ => (hk_.2.1) hs_)) (fun k_ hk_ => ⟨hk_.1.1, hk_.1.2.1, hk_.1.2.2.1, hk_.1.2.2.2.1, hk_.1.2.2.2.2.1, hk_.1.2.2.2.2.2.1, hk_.1.2.2.2.2.2.2⟩)); have n8_ := Aside0.mk (Kd.R_mono (ok' := fun k_ => some k_ ≠ (v963 : Value).ownBlock ∧ some k_ ≠ (.slice Ao36 t974.length co36 : Value).ownBlock ∧ some k_ ≠ (v978 : Value).ownBlock ∧ some k_ ≠ (.slice Ao32 t967.length co32 : Value).ownBlock ∧ some k_ ≠ (.slice Ao33 t970.length co33 : Value).ownBlock ∧ some k_ ≠ (.slice Ao56 t983.length co56 : Value).ownBlock ∧ some k_ ≠ (.slice Ao60 t990.length co60 : Value).ownBlock) (Kd.R_keptB (HO988.out) hkp (fun k_ hk_ hs_ => (hk_.2.1) hs_)) (fun k_ hk_ => ⟨hk_.1.1, hk_.1.2.1, hk_.1.2.2.1, hk_.1.2.2.2.1, hk_.1.2.2.2.2.1, hk_.1.2.2.2.2.2.1, hk_.1.2.2.2.2.2.2⟩)); have n9_ := Aside0.mk (Kd.R_mono (ok' := fun k_ => some k_ ≠ (v963 : Value).ownBlock ∧ some k_ ≠ (.slice Ao36 t974.length co36 : Value).ownBlock ∧ some k_ ≠ (v978 : Value).ownBlock ∧ some k_ ≠ (.slice Ao32 t967.length co32 : Value).ownBlock ∧ some k_ ≠ (.slice Ao33 t970.length co33 : Value).ownBlock ∧ some k_ ≠ (.slice Ao56 t983.length co56 : Value).ownBlock ∧ some k_ ≠ (.slice Ao57 t986.length co57 : Value).ownBlock) (Kd.R_keptB (HO992.out) hkp (fun k_ hk_ hs_ => (hk_.2.1) hs_)) (fun k_ hk_ => ⟨hk_.1.1, hk_.1.2.1, hk_.1.2.2.1, hk_.1.2.2.2.1, hk_.1.2.2.2.2.1, hk_.1.2.2.2.2.2.1, hk_.1.2.2.2.2.2.2⟩)); have n10_ := Aside0.mk (hb); clear HO_6; clear HO_9; clear HO_10; clear HO_974001; clear HO_974002; clear BK950; clear BK973; clear HO985; clear HO988; clear HO992; clear HB; have HO_6 := n0_; have HO_9 := n1_; have HO_10 := n2_; have HO_974001 := n3_; have HO_974002 := n4_; have BK950 := n5_; have BK973 := n6_; have HO985 := n7_; have HO988 := n8_; have HO992 := n9_; have HB := n10_; clear n0_ n1_ n2_ n3_ n4_ n5_ n6_ n7_ n8_ n9_ n10_; (try clear hb); (try clear hkp); (try clear hy0)))
        (try simp only [Act.put, List.setIfInBounds_toArray, List.set_cons_zero, List.set_cons_succ])
        go_cut [80] (fun v80 wc => ∃ (kq : Nat) (x80_52 : Bool), v80 = .bool x80_52 ∧ Aside0 (laws_FnExactSumBy.j1 kq l1 t962 t965 t977 x80_52 a0_0 l0_1 l0_2 = some r) ∧ Aside0 (kq ≤ kj15) ∧ Aside0 (Kd.R (Kd.int .i64) 2 wc w.heap.size (fun k_ => some k_ ≠ (v978 : Value).ownBlock ∧ some k_ ≠ ((.slice Ao32 t967.length co32) : Value).ownBlock ∧ some k_ ≠ ((.slice Ao33 t970.length co33) : Value).ownBlock) v963 t962) ∧ Aside0 (Kd.R (Kd.int .i64) 2 wc w.heap.size (fun k_ => some k_ ≠ (v963 : Value).ownBlock ∧ some k_ ≠ ((.slice Ao32 t967.length co32) : Value).ownBlock ∧ some k_ ≠ ((.slice Ao33 t970.length co33) : Value).ownBlock) v978 t977) ∧ Aside0 (Kd.R (Kd.int .i64) 2 wc w.heap.size (fun k_ => some k_ ≠ (v963 : Value).ownBlock ∧ some k_ ≠ (v978 : Value).ownBlock ∧ some k_ ≠ ((.slice Ao33 t970.length co33) : Value).ownBlock) (.slice Ao32 t967.length co32) t995) ∧ Aside0 (Kd.R (Kd.int .i64) 2 wc w.heap.size (fun k_ => some k_ ≠ (v963 : Value).ownBlock ∧ some k_ ≠ (v978 : Value).ownBlock ∧ some k_ ≠ ((.slice Ao32 t967.length co32) : Value).ownBlock) (.slice Ao33 t970.length co33) t996) ∧ Aside0 (wc.heap[gb950]? = some (.cells #[.int .i64 a0_0, (.slice A0_1 l0_1.length c0_1), (.slice A0_2 l0_2.length c0_2)] 24 (0, 0))) ∧ Aside0 (wc.heap[gb973]? = some (.cells #[.int .i64 t966, (.slice Ao32 t967.length co32), (.slice Ao33 t970.length co33)] 29 (0, 0))) ∧ Aside0 (Below w.heap.size w wc))
        case first =>
         have H := HC53.out
         clear HC53
         by_cases c65 : t997 < 0
         ·rw [if_pos c65] at H
          have c65b0 : decide (t997 < 0) = true := decide_eq_true c65
          clear c65
          (first | rw [c65b0] | (simp only [i64_w, i32_w]; rw [c65b0]) | skip)
          have H' := Aside0.mk H
          clear H
          go_wp2
          go_meet
          case rel => exact ⟨_, (true), (by first | rfl | (simp; done) | (simp [*]; done)), H', ⟨by have := HJ15.out; first | omega | exact Nat.le_refl _⟩, ⟨by refine ZQ ?_; exact Kd.R_mono HO_6.out (fun _ hk => (And.intro (hk.2.1) ((And.intro (hk.2.2.1) (hk.2.2.2.1)))))⟩, ⟨by refine ZQ ?_; exact Kd.R_mono HO_10.out (fun _ hk => (And.intro (hk.1) ((And.intro (hk.2.2.1) (hk.2.2.2.1)))))⟩, ⟨by refine ZQ ?_; exact Kd.R_mono HO_974001.out (fun _ hk => (And.intro (hk.1) ((And.intro (hk.2.2.1) (hk.2.2.2.1)))))⟩, ⟨by refine ZQ ?_; exact Kd.R_mono HO_974002.out (fun _ hk => (And.intro (hk.1) ((And.intro (hk.2.2.1) (hk.2.2.2.1)))))⟩, ⟨ZK BK950⟩, ⟨ZK BK973⟩, ⟨ZB⟩⟩
         ·rw [if_neg c65] at H
          have c65b0 : decide (t997 < 0) = false := decide_eq_false c65
          clear c65
          (first | rw [c65b0] | (simp only [i64_w, i32_w]; rw [c65b0]) | skip)
          replace H := Option.bind_eq_some_iff.mp H
          obtain ⟨t999, A660, H⟩ := H
          replace H : (if t999 = true then (laws_FnExactSumBy.j1 kj15 l1 t962 t965 t977 (t980 != t965) a0_0 l0_1 l0_2) else (laws_FnExactSumBy.j1 kj15 l1 t962 t965 t977 true a0_0 l0_1 l0_2)) = some r := H
          have A66 := Aside0.mk A660
          clear A660
          by_cases c67 : t999 = true
          ·subst c67
           have H1 : (laws_FnExactSumBy.j1 kj15 l1 t962 t965 t977 (t980 != t965) a0_0 l0_1 l0_2) = some r := by rw [if_pos rfl] at H; exact H
           clear H
           have H := H1
           clear H1
           have H' := Aside0.mk H
           clear H
           obtain ⟨Ao68, co68, eo68⟩ := Kd.R_slice HO_10.out
           subst eo68
           obtain ⟨Ao69, co69, eo69⟩ := Kd.R_slice HO_6.out
           subst eo69
           go_wp2_with (first | (go_at_call 29; (with_reducible refine (laws_eqInt64S.calls kj15 _ _ t977 _ _ t962 true _ ?side1 ?side2 ?side3 ?side4 A66.out).mono ?_); (case side1 => repeat (first | exact (Kd.R_reads' HO_10.out).2.2 | (with_reducible refine Kd.C_alloc ?_ _) | (with_reducible refine Kd.C_drewN ?_ _) | (with_reducible refine Kd.C_drew ?_))); (case side2 => exact (Kd.R_reads' HO_10.out).2.1); (case side3 => repeat (first | exact (Kd.R_reads' HO_6.out).2.2 | (with_reducible refine Kd.C_alloc ?_ _) | (with_reducible refine Kd.C_drewN ?_ _) | (with_reducible refine Kd.C_drew ?_))); (case side4 => exact (Kd.R_reads' HO_6.out).2.1); rintro e w' ⟨rfl, ⟨nd, rfl⟩⟩))
           go_meet
           case rel => exact ⟨_, ((t980 != t965)), (by first | rfl | (simp; done) | (simp [*]; done)), H', ⟨by have := HJ15.out; first | omega | exact Nat.le_refl _⟩, ⟨by refine ZQ ?_; exact Kd.R_mono HO_6.out (fun _ hk => (And.intro (hk.2.1) ((And.intro (hk.2.2.1) (hk.2.2.2.1)))))⟩, ⟨by refine ZQ ?_; exact Kd.R_mono HO_10.out (fun _ hk => (And.intro (hk.1) ((And.intro (hk.2.2.1) (hk.2.2.2.1)))))⟩, ⟨by refine ZQ ?_; exact Kd.R_mono HO_974001.out (fun _ hk => (And.intro (hk.1) ((And.intro (hk.2.2.1) (hk.2.2.2.1)))))⟩, ⟨by refine ZQ ?_; exact Kd.R_mono HO_974002.out (fun _ hk => (And.intro (hk.1) ((And.intro (hk.2.2.1) (hk.2.2.2.1)))))⟩, ⟨ZK BK950⟩, ⟨ZK BK973⟩, ⟨ZB⟩⟩
          ·replace c67 := Bool.eq_false_iff.mpr c67
           subst c67
           have H1 : (laws_FnExactSumBy.j1 kj15 l1 t962 t965 t977 true a0_0 l0_1 l0_2) = some r := by rw [if_neg (show ¬ (false = true) by decide)] at H; exact H
           clear H
           have H := H1
           clear H1
           have H' := Aside0.mk H
           clear H
           obtain ⟨Ao70, co70, eo70⟩ := Kd.R_slice HO_10.out
           subst eo70
           obtain ⟨Ao71, co71, eo71⟩ := Kd.R_slice HO_6.out
           subst eo71
           go_wp2_with (first | (go_at_call 29; (with_reducible refine (laws_eqInt64S.calls kj15 _ _ t977 _ _ t962 false _ ?side1 ?side2 ?side3 ?side4 A66.out).mono ?_); (case side1 => repeat (first | exact (Kd.R_reads' HO_10.out).2.2 | (with_reducible refine Kd.C_alloc ?_ _) | (with_reducible refine Kd.C_drewN ?_ _) | (with_reducible refine Kd.C_drew ?_))); (case side2 => exact (Kd.R_reads' HO_10.out).2.1); (case side3 => repeat (first | exact (Kd.R_reads' HO_6.out).2.2 | (with_reducible refine Kd.C_alloc ?_ _) | (with_reducible refine Kd.C_drewN ?_ _) | (with_reducible refine Kd.C_drew ?_))); (case side4 => exact (Kd.R_reads' HO_6.out).2.1); rintro e w' ⟨rfl, ⟨nd, rfl⟩⟩))
           go_meet
           case rel => exact ⟨_, (true), (by first | rfl | (simp; done) | (simp [*]; done)), H', ⟨by have := HJ15.out; first | omega | exact Nat.le_refl _⟩, ⟨by refine ZQ ?_; exact Kd.R_mono HO_6.out (fun _ hk => (And.intro (hk.2.1) ((And.intro (hk.2.2.1) (hk.2.2.2.1)))))⟩, ⟨by refine ZQ ?_; exact Kd.R_mono HO_10.out (fun _ hk => (And.intro (hk.1) ((And.intro (hk.2.2.1) (hk.2.2.2.1)))))⟩, ⟨by refine ZQ ?_; exact Kd.R_mono HO_974001.out (fun _ hk => (And.intro (hk.1) ((And.intro (hk.2.2.1) (hk.2.2.2.1)))))⟩, ⟨by refine ZQ ?_; exact Kd.R_mono HO_974002.out (fun _ hk => (And.intro (hk.1) ((And.intro (hk.2.2.1) (hk.2.2.2.1)))))⟩, ⟨ZK BK950⟩, ⟨ZK BK973⟩, ⟨ZB⟩⟩
        case rest =>
         clear HC53
         try clear c1
         try clear c2
         try clear p2
         try clear c3
         try clear c3b0
         try clear c3b1
         try clear c4
         try clear c5
         try clear c6
         try clear c6b0
         try clear c9
         try clear c14
         try clear c16
         try clear c19
         try clear c20
         try clear c27
         try clear c29
         try clear c30
         try clear c38
         try clear c39
         try clear c44
         try clear c47
         try clear c50
         try clear c61
         try clear c65
         try clear c65b0
         try clear c67
         try clear hcz18_0
         try clear hcz18_1
         try clear hcz18_2
         try clear hcz20_0
         try clear hcz20_1
         try clear hcz20_2
         try clear hcz27_0
         try clear hcz27_1
         try clear hcz27_2
         try clear hcz31_0
         try clear hcz31_1
         try clear hcz31_2
         try clear hcz35_0
         try clear hcz35_1
         try clear hcz35_2
         try clear hcz62_0
         try clear hcz62_1
         try clear hcz62_2
         try clear hcz8_0
         try clear hcz8_1
         try clear hcz8_2
         try clear hfz18_0
         try clear hfz18_1
         try clear hfz18_2
         try clear hfz20_0
         try clear hfz20_1
         try clear hfz20_2
         try clear hfz27_0
         try clear hfz27_1
         try clear hfz27_2
         try clear hfz31_0
         try clear hfz31_1
         try clear hfz31_2
         try clear hfz35_0
         try clear hfz35_1
         try clear hfz35_2
         try clear hfz62_0
         try clear hfz62_1
         try clear hfz62_2
         try clear hfz8_0
         try clear hfz8_1
         try clear hfz8_2
         try clear p2
         obtain ⟨kq, x80_52, rfl, HA, HJ52, HO_6, HO_10, HO_974001, HO_974002, BK950, BK973, HB⟩ := hcut
         have hl974001_52 := (Kd.R_reads' HO_974001.out).1
         rw [hl974001_52] at HO_974001
         (try simp only [hl974001_52])
         (try simp only [hl974001_52] at BK950)
         (try simp only [hl974001_52] at BK973)
         (try simp only [hl974001_52] at HO_6)
         (try simp only [hl974001_52] at HO_10)
         (try simp only [hl974001_52] at HO_974002)
         have hl974002_52 := (Kd.R_reads' HO_974002.out).1
         rw [hl974002_52] at HO_974002
         (try simp only [hl974002_52])
         (try simp only [hl974002_52] at BK950)
         (try simp only [hl974002_52] at BK973)
         (try simp only [hl974002_52] at HO_6)
         (try simp only [hl974002_52] at HO_10)
         (try simp only [hl974002_52] at HO_974001)
         cases kq with
         | zero => exact absurd HA.out (by simp [laws_FnExactSumBy.j1])
         | succ kj52 =>
          have H := HA.out
          clear HA
          simp only [laws_FnExactSumBy.j1] at H
          by_cases c72 : x80_52 = true
          ·subst c72
           have H1 : (some false) = some r := by rw [if_pos rfl] at H; exact H
           clear H
           have H := H1
           clear H1
           exact absurd (H.trans (congrArg some hT.out)) (by simp)
          ·replace c72 := Bool.eq_false_iff.mpr c72
           subst c72
           have H1 : ((laws_markInt64S.f kj52 t977 1).bind fun bt1000 => ((laws_heldInt64S.f kj52 bt1000.2 1).bind fun t1002 => (if t1002 < 0 then (some false) else (if t1002 = bt1000.1 then ((laws_toJacobi.f kj52 a0_0 l0_1 l0_2).bind fun bt1003 => ((laws_toInt64S.f kj52 l1).bind fun t1010 => ((impl_SumBy.f kj52 bt1003.1 bt1003.2.1 bt1003.2.2 t1010).bind fun bt1013 => ((laws_eqInt64S.f kj52 bt1013.1 t962).bind fun t1017 => (if t1017 = true then (laws_FnExactSumBy.j2 kj52 bt1000.2 bt1000.1 (bt1013.2 != t965)) else (laws_FnExactSumBy.j2 kj52 bt1000.2 bt1000.1 true)))))) else (some false))))) = some r := by rw [if_neg (show ¬ (false = true) by decide)] at H; exact H
           clear H
           have H := H1
           clear H1
           replace H := Option.bind_eq_some_iff.mp H
           obtain ⟨⟨t1000, t1001⟩, A730, H⟩ := H
           replace H : ((laws_heldInt64S.f kj52 t1001 1).bind fun t1002 => (if t1002 < 0 then (some false) else (if t1002 = t1000 then ((laws_toJacobi.f kj52 a0_0 l0_1 l0_2).bind fun bt1003 => ((laws_toInt64S.f kj52 l1).bind fun t1010 => ((impl_SumBy.f kj52 bt1003.1 bt1003.2.1 bt1003.2.2 t1010).bind fun bt1013 => ((laws_eqInt64S.f kj52 bt1013.1 t962).bind fun t1017 => (if t1017 = true then (laws_FnExactSumBy.j2 kj52 t1001 t1000 (bt1013.2 != t965)) else (laws_FnExactSumBy.j2 kj52 t1001 t1000 true)))))) else (some false)))) = some r := H
           have A73 := Aside0.mk A730
           clear A730
           replace H := Option.bind_eq_some_iff.mp H
           obtain ⟨t1002, A740, H⟩ := H
           replace H : (if t1002 < 0 then (some false) else (if t1002 = t1000 then ((laws_toJacobi.f kj52 a0_0 l0_1 l0_2).bind fun bt1003 => ((laws_toInt64S.f kj52 l1).bind fun t1010 => ((impl_SumBy.f kj52 bt1003.1 bt1003.2.1 bt1003.2.2 t1010).bind fun bt1013 => ((laws_eqInt64S.f kj52 bt1013.1 t962).bind fun t1017 => (if t1017 = true then (laws_FnExactSumBy.j2 kj52 t1001 t1000 (bt1013.2 != t965)) else (laws_FnExactSumBy.j2 kj52 t1001 t1000 true)))))) else (some false))) = some r := H
           have A74 := Aside0.mk A740
           clear A740
           by_cases c75 : t1002 < 0
           ·rw [if_pos c75] at H
            have c75b0 : decide (t1002 < 0) = true := decide_eq_true c75
            clear c75
            exact absurd (H.trans (congrArg some hT.out)) (by simp)
           ·rw [if_neg c75] at H
            have c75b0 : decide (t1002 < 0) = false := decide_eq_false c75
            clear c75
            by_cases c76 : t1002 = t1000
            ·rw [if_pos c76] at H
             have c76b0 : (t1002 == t1000) = true := beq_iff_eq.mpr c76
             have c76b1 : (t1002 != t1000) = false := bne_eq_false_iff_eq.mpr c76
             clear c76
             replace H := Option.bind_eq_some_iff.mp H
             obtain ⟨⟨t1003, t1004, t1007⟩, A770, H⟩ := H
             replace H : ((laws_toInt64S.f kj52 l1).bind fun t1010 => ((impl_SumBy.f kj52 t1003 t1004 t1007 t1010).bind fun bt1013 => ((laws_eqInt64S.f kj52 bt1013.1 t962).bind fun t1017 => (if t1017 = true then (laws_FnExactSumBy.j2 kj52 t1001 t1000 (bt1013.2 != t965)) else (laws_FnExactSumBy.j2 kj52 t1001 t1000 true))))) = some r := H
             have A77 := Aside0.mk A770
             clear A770
             replace H := Option.bind_eq_some_iff.mp H
             obtain ⟨t1010, A780, H⟩ := H
             replace H : ((impl_SumBy.f kj52 t1003 t1004 t1007 t1010).bind fun bt1013 => ((laws_eqInt64S.f kj52 bt1013.1 t962).bind fun t1017 => (if t1017 = true then (laws_FnExactSumBy.j2 kj52 t1001 t1000 (bt1013.2 != t965)) else (laws_FnExactSumBy.j2 kj52 t1001 t1000 true)))) = some r := H
             have A78 := Aside0.mk A780
             clear A780
             replace H := Option.bind_eq_some_iff.mp H
             obtain ⟨⟨t1013, t1016⟩, A790, H⟩ := H
             replace H : ((laws_eqInt64S.f kj52 t1013 t962).bind fun t1017 => (if t1017 = true then (laws_FnExactSumBy.j2 kj52 t1001 t1000 (t1016 != t965)) else (laws_FnExactSumBy.j2 kj52 t1001 t1000 true))) = some r := H
             have A79 := Aside0.mk A790
             clear A790
             have HC80 := Aside0.mk H
             clear H
             obtain ⟨Ao81, co81, eo81⟩ := Kd.R_slice HO_10.out
             subst eo81
             go_upto_region 31 with (first | ((with_reducible refine gate_callee (f := 30) rfl ?_); refine goesL_ (some 83) rfl rfl Try.func30 (by kernel_rfl) rfl #[.slice Ao81 t977.length co81, .int .i64 1] rfl ZA ?_; (with_reducible refine (laws_markInt64S.calls kj52 (fun k_ => some k_ = (.slice Ao81 t977.length co81 : Value).ownBlock) (.slice Ao81 t977.length co81) t977 1 t1000 t1001 w _ ?side1 ?side2 A73.out).mono ?_); (case side1 => repeat (first | (with_reducible first | exact HB.out | apply below_alloc | apply pw_below_drewN | apply below_drew1 | refine below_set ?_ GE950.out | refine below_set ?_ GE973.out) | exact HB.out)); (case side2 => exact Kd.R_tight rfl HO_10.out); rintro e w82 ⟨rfl, hy0, hb, hkp⟩; refine ⟨_, rfl, ?_⟩; have n0_ := Aside0.mk (Kd.R_mono (ok' := fun k_ => some k_ ≠ (.slice Ao81 t977.length co81 : Value).ownBlock ∧ some k_ ≠ (.slice Ao32 t995.length co32 : Value).ownBlock ∧ some k_ ≠ (.slice Ao33 t996.length co33 : Value).ownBlock) (Kd.R_keptB (HO_6.out) hkp (fun k_ hk_ hs_ => (hk_.1) hs_)) (fun k_ hk_ => ⟨hk_.1.1, hk_.1.2.1, hk_.1.2.2⟩)); have n1_ := Aside0.mk (Kd.R_reok rfl hy0 (fun k_ e_ => HO_10.out.1 k_ e_)); have n2_ := Aside0.mk (Kd.R_mono (ok' := fun k_ => some k_ ≠ (v963 : Value).ownBlock ∧ some k_ ≠ (.slice Ao81 t977.length co81 : Value).ownBlock ∧ some k_ ≠ (.slice Ao33 t996.length co33 : Value).ownBlock) (Kd.R_keptB (HO_974001.out) hkp (fun k_ hk_ hs_ => (hk_.2.1) hs_)) (fun k_ hk_ => ⟨hk_.1.1, hk_.1.2.1, hk_.1.2.2⟩)); have n3_ := Aside0.mk (Kd.R_mono (ok' := fun k_ => some k_ ≠ (v963 : Value).ownBlock ∧ some k_ ≠ (.slice Ao81 t977.length co81 : Value).ownBlock ∧ some k_ ≠ (.slice Ao32 t995.length co32 : Value).ownBlock) (Kd.R_keptB (HO_974002.out) hkp (fun k_ hk_ hs_ => (hk_.2.1) hs_)) (fun k_ hk_ => ⟨hk_.1.1, hk_.1.2.1, hk_.1.2.2⟩)); have n4_ := Aside0.mk (blk_kept (ZK BK950) hkp (fun hs_ => (fun e_ => (Kd.R_ne HO_10.out BK950.out (by decide)) e_) hs_)); have n5_ := Aside0.mk (blk_kept (ZK BK973) hkp (fun hs_ => (fun e_ => (Kd.R_ne HO_10.out BK973.out (by decide)) e_) hs_)); have n6_ := Aside0.mk (hb); clear HO_6; clear HO_10; clear HO_974001; clear HO_974002; clear BK950; clear BK973; clear HB; have HO_6 := n0_; have HO_10 := n1_; have HO_974001 := n2_; have HO_974002 := n3_; have BK950 := n4_; have BK973 := n5_; have HB := n6_; clear n0_ n1_ n2_ n3_ n4_ n5_ n6_; (try clear hb); (try clear hkp); (try clear hy0)) | ((with_reducible refine gate_callee (f := 31) rfl ?_); refine goesL_ (some 86) rfl rfl Try.func31 (by kernel_rfl) rfl #[.slice Ao81 t1001.length co81, .int .i64 1] rfl (by (try simp only [List.map_toArray, List.map_cons, List.map_nil]); first | done | (rw [show t1001.length = t977.length from (Kd.R_reads' HO_10.out).1.symm] <;> rfl) | rfl | (simp only [List.length_drop, List.length_take]; rfl)) ?_; (with_reducible refine (laws_heldInt64S.calls kj52 _ _ t1001 1 t1002 _ ?side1 ?side2 A74.out).mono ?_); (case side1 => repeat (first | exact (Kd.R_reads' HO_10.out).2.2 | (with_reducible refine Kd.C_alloc ?_ _) | (with_reducible refine Kd.C_drewN ?_ _) | (with_reducible refine Kd.C_drew ?_))); (case side2 => rw [show t1001.length = t977.length from (Kd.R_reads' HO_10.out).1.symm]; exact (Kd.R_reads' HO_10.out).2.1); rintro e w' ⟨rfl, ⟨nd, rfl⟩⟩; refine ⟨_, rfl, ?_⟩; have hnb83 := NB950_973.out; have hnc83 := NB973_950.out; obtain ⟨hcz84_0, hcz84_1, hcz84_2, hfz84_0, hfz84_1, hfz84_2⟩ := ZD3 BK950) | ((with_reducible refine gate_callee (f := 16) rfl ?_); refine goesL_ (some 94) rfl rfl Try.func16 (by kernel_rfl) rfl #[.agg #[.int .i64 a0_0, .slice A0_1 l0_1.length c0_1, .slice A0_2 l0_2.length c0_2]] rfl ZA ?_; (with_reducible refine (laws_toJacobi.calls kj52 a0_0 _ _ l0_1 _ _ l0_2 t1003 t1004 t1007 _ ?side1 ?side2 ?side3 ?side4 A77.out).mono ?_); (case side1 => exact ZE HR0_1); (case side2 => exact HC0_1.out); (case side3 => exact ZE HR0_2); (case side4 => exact HC0_2.out); rintro e w85 ⟨v1005, v1008, rfl, ho0, ho1, hb⟩; refine ⟨_, rfl, ?_⟩; have n0_ := Aside0.mk (Kd.R_mono (Kd.R_told (Kd.R_told (Kd.R_old (ZR HO_6) hb) (Kd.R_base ho0)) (Kd.R_base ho1)) (fun _ h_ => h_.1)); have n1_ := Aside0.mk (Kd.R_mono (Kd.R_told (Kd.R_told (Kd.R_old (ZR HO_10) hb) (Kd.R_base ho0)) (Kd.R_base ho1)) (fun _ h_ => h_.1)); have n2_ := Aside0.mk (Kd.R_mono (Kd.R_told (Kd.R_told (Kd.R_old (ZR HO_974001) hb) (Kd.R_base ho0)) (Kd.R_base ho1)) (fun _ h_ => h_.1)); have n3_ := Aside0.mk (Kd.R_mono (Kd.R_told (Kd.R_told (Kd.R_old (ZR HO_974002) hb) (Kd.R_base ho0)) (Kd.R_base ho1)) (fun _ h_ => h_.1)); have n4_ := Aside0.mk (Kd.R_lower (Kd.R_new' (Kd.R_new' (Kd.R_new' (Kd.R_new' ho0 (Kd.R_lt (ZR HO_6))) (Kd.R_lt (ZR HO_10))) (Kd.R_lt (ZR HO_974001))) (Kd.R_lt (ZR HO_974002))) (below_size ZB)); have n5_ := Aside0.mk (Kd.R_lower (Kd.R_new' (Kd.R_new' (Kd.R_new' (Kd.R_new' ho1 (Kd.R_lt (ZR HO_6))) (Kd.R_lt (ZR HO_10))) (Kd.R_lt (ZR HO_974001))) (Kd.R_lt (ZR HO_974002))) (below_size ZB)); have n6_ := ZL BK950 hb; have n7_ := ZL BK973 hb; have n8_ := Aside0.mk (below_step ZB hb); clear HO_6; clear HO_10; clear HO_974001; clear HO_974002; clear BK950; clear BK973; clear HB; have HO_6 := n0_; have HO_10 := n1_; have HO_974001 := n2_; have HO_974002 := n3_; have HO1006 := n4_; have HO1009 := n5_; have BK950 := n6_; have BK973 := n7_; have HB := n8_; clear n0_ n1_ n2_ n3_ n4_ n5_ n6_ n7_ n8_; (try clear hb); (try clear hb2); (try clear hk); (try clear hi); (try clear ho0); (try clear ho1)) | ((with_reducible refine gate_callee (f := 27) rfl ?_); refine goesL_ (some 96) rfl rfl Try.func27 (by kernel_rfl) rfl #[.slice A1 l1.length c1] rfl ZA ?_; (with_reducible refine (laws_toInt64S.calls kj52 _ _ l1 t1010 _ ?side1 ?side2 A78.out).mono ?_); (case side1 => exact ZC HR1); (case side2 => exact HC1.out); rintro e w86 ⟨v1011, rfl, ho0, hb⟩; refine ⟨_, rfl, ?_⟩; have n0_ := Aside0.mk (Kd.R_elder' (ZR HO_6) (Kd.R_base ho0) hb); have n1_ := Aside0.mk (Kd.R_elder' (ZR HO_10) (Kd.R_base ho0) hb); have n2_ := Aside0.mk (Kd.R_elder' (ZR HO_974001) (Kd.R_base ho0) hb); have n3_ := Aside0.mk (Kd.R_elder' (ZR HO_974002) (Kd.R_base ho0) hb); have n4_ := Aside0.mk (Kd.R_elder' (ZR HO1006) (Kd.R_base ho0) hb); have n5_ := Aside0.mk (Kd.R_elder' (ZR HO1009) (Kd.R_base ho0) hb); have n6_ := Aside0.mk (Kd.R_lower (Kd.R_new' (Kd.R_new' (Kd.R_new' (Kd.R_new' (Kd.R_new' (Kd.R_new' ho0 (Kd.R_lt (ZR HO_6))) (Kd.R_lt (ZR HO_10))) (Kd.R_lt (ZR HO_974001))) (Kd.R_lt (ZR HO_974002))) (Kd.R_lt (ZR HO1006))) (Kd.R_lt (ZR HO1009))) (below_size ZB)); have n7_ := ZL BK950 hb; have n8_ := ZL BK973 hb; have n9_ := Aside0.mk (below_step ZB hb); clear HO_6; clear HO_10; clear HO_974001; clear HO_974002; clear HO1006; clear HO1009; clear BK950; clear BK973; clear HB; have HO_6 := n0_; have HO_10 := n1_; have HO_974001 := n2_; have HO_974002 := n3_; have HO1006 := n4_; have HO1009 := n5_; have HO1012 := n6_; have BK950 := n7_; have BK973 := n8_; have HB := n9_; clear n0_ n1_ n2_ n3_ n4_ n5_ n6_ n7_ n8_ n9_; (try clear hb); (try clear hb2); (try clear hk); (try clear hi); (try clear ho0); obtain ⟨Ao87, co87, eo87⟩ := Kd.R_slice HO1006.out; subst eo87; obtain ⟨Ao88, co88, eo88⟩ := Kd.R_slice HO1009.out; subst eo88; obtain ⟨Ao89, co89, eo89⟩ := Kd.R_slice HO1012.out; subst eo89) | ((with_reducible refine gate_callee (f := 39) rfl ?_); refine goesL_ (some 97) rfl rfl Try.func39 (by kernel_rfl) rfl #[.agg #[.int .i64 t1003, .slice Ao87 t1004.length co87, .slice Ao88 t1007.length co88], .slice Ao89 t1010.length co89] rfl ZA ?_; (with_reducible refine (impl_SumBy.calls kj52 t1003 _ _ t1004 _ _ t1007 _ _ t1010 t1013 t1016 _ ?side1 ?side2 ?side3 ?side4 ?side5 ?side6 A79.out).mono ?_); (case side1 => repeat (first | exact (Kd.R_reads' HO1006.out).2.2 | (with_reducible refine Kd.C_alloc ?_ _) | (with_reducible refine Kd.C_drewN ?_ _) | (with_reducible refine Kd.C_drew ?_))); (case side2 => exact (Kd.R_reads' HO1006.out).2.1); (case side3 => repeat (first | exact (Kd.R_reads' HO1009.out).2.2 | (with_reducible refine Kd.C_alloc ?_ _) | (with_reducible refine Kd.C_drewN ?_ _) | (with_reducible refine Kd.C_drew ?_))); (case side4 => exact (Kd.R_reads' HO1009.out).2.1); (case side5 => repeat (first | exact (Kd.R_reads' HO1012.out).2.2 | (with_reducible refine Kd.C_alloc ?_ _) | (with_reducible refine Kd.C_drewN ?_ _) | (with_reducible refine Kd.C_drew ?_))); (case side6 => exact (Kd.R_reads' HO1012.out).2.1); rintro e w90 ⟨v1014, rfl, ho0, hb⟩; refine ⟨_, rfl, ?_⟩; have n0_ := Aside0.mk (Kd.R_elder' (ZR HO_6) (Kd.R_base ho0) hb); have n1_ := Aside0.mk (Kd.R_elder' (ZR HO_10) (Kd.R_base ho0) hb); have n2_ := Aside0.mk (Kd.R_elder' (ZR HO_974001) (Kd.R_base ho0) hb); have n3_ := Aside0.mk (Kd.R_elder' (ZR HO_974002) (Kd.R_base ho0) hb); have n4_ := Aside0.mk (Kd.R_elder' (ZR HO1006) (Kd.R_base ho0) hb); have n5_ := Aside0.mk (Kd.R_elder' (ZR HO1009) (Kd.R_base ho0) hb); have n6_ := Aside0.mk (Kd.R_elder' (ZR HO1012) (Kd.R_base ho0) hb); have n7_ := Aside0.mk (Kd.R_lower (Kd.R_new' (Kd.R_new' (Kd.R_new' (Kd.R_new' (Kd.R_new' (Kd.R_new' (Kd.R_new' ho0 (Kd.R_lt (ZR HO_6))) (Kd.R_lt (ZR HO_10))) (Kd.R_lt (ZR HO_974001))) (Kd.R_lt (ZR HO_974002))) (Kd.R_lt (ZR HO1006))) (Kd.R_lt (ZR HO1009))) (Kd.R_lt (ZR HO1012))) (below_size ZB)); have n8_ := ZL BK950 hb; have n9_ := ZL BK973 hb; have n10_ := Aside0.mk (below_step ZB hb); clear HO_6; clear HO_10; clear HO_974001; clear HO_974002; clear HO1006; clear HO1009; clear HO1012; clear BK950; clear BK973; clear HB; have HO_6 := n0_; have HO_10 := n1_; have HO_974001 := n2_; have HO_974002 := n3_; have HO1006 := n4_; have HO1009 := n5_; have HO1012 := n6_; have HO1015 := n7_; have BK950 := n8_; have BK973 := n9_; have HB := n10_; clear n0_ n1_ n2_ n3_ n4_ n5_ n6_ n7_ n8_ n9_ n10_; (try clear hb); (try clear hb2); (try clear hk); (try clear hi); (try clear ho0)))
             (try simp only [Act.put, List.setIfInBounds_toArray, List.set_cons_zero, List.set_cons_succ])
             go_cut [108] (fun v108 wc => ∃ (kq : Nat) (x108_79 : Bool), v108 = .bool x108_79 ∧ Aside0 (laws_FnExactSumBy.j2 kq t1001 t1000 x108_79 = some r) ∧ Aside0 (kq ≤ kj52) ∧ Aside0 (Kd.R (Kd.int .i64) 2 wc w.heap.size (fun k_ => some k_ ≠ ((.slice Ao32 t995.length co32) : Value).ownBlock ∧ some k_ ≠ ((.slice Ao33 t996.length co33) : Value).ownBlock) (.slice Ao81 t977.length co81) t1001) ∧ Aside0 (Kd.R (Kd.int .i64) 2 wc w.heap.size (fun k_ => some k_ ≠ ((.slice Ao81 t977.length co81) : Value).ownBlock ∧ some k_ ≠ ((.slice Ao33 t996.length co33) : Value).ownBlock) (.slice Ao32 t995.length co32) t995) ∧ Aside0 (Kd.R (Kd.int .i64) 2 wc w.heap.size (fun k_ => some k_ ≠ ((.slice Ao81 t977.length co81) : Value).ownBlock ∧ some k_ ≠ ((.slice Ao32 t995.length co32) : Value).ownBlock) (.slice Ao33 t996.length co33) t996) ∧ Aside0 (wc.heap[gb950]? = some (.cells #[.int .i64 a0_0, (.slice A0_1 l0_1.length c0_1), (.slice A0_2 l0_2.length c0_2)] 24 (0, 0))) ∧ Aside0 (wc.heap[gb973]? = some (.cells #[.int .i64 t966, (.slice Ao32 t995.length co32), (.slice Ao33 t996.length co33)] 29 (0, 0))) ∧ Aside0 (Below w.heap.size w wc))
             case first =>
              have H := HC80.out
              clear HC80
              replace H := Option.bind_eq_some_iff.mp H
              obtain ⟨t1017, A910, H⟩ := H
              replace H : (if t1017 = true then (laws_FnExactSumBy.j2 kj52 t1001 t1000 (t1016 != t965)) else (laws_FnExactSumBy.j2 kj52 t1001 t1000 true)) = some r := H
              have A91 := Aside0.mk A910
              clear A910
              by_cases c92 : t1017 = true
              ·subst c92
               have H1 : (laws_FnExactSumBy.j2 kj52 t1001 t1000 (t1016 != t965)) = some r := by rw [if_pos rfl] at H; exact H
               clear H
               have H := H1
               clear H1
               have H' := Aside0.mk H
               clear H
               obtain ⟨Ao93, co93, eo93⟩ := Kd.R_slice HO1015.out
               subst eo93
               obtain ⟨Ao94, co94, eo94⟩ := Kd.R_slice HO_6.out
               subst eo94
               go_wp2_with (first | ((with_reducible refine gate_callee (f := 29) rfl ?_); refine goesL_ (some 102) rfl rfl Try.func29 (by kernel_rfl) rfl #[.slice Ao93 t1013.length co93, .slice Ao94 t962.length co94] rfl ZA ?_; (with_reducible refine (laws_eqInt64S.calls kj52 _ _ t1013 _ _ t962 true _ ?side1 ?side2 ?side3 ?side4 A91.out).mono ?_); (case side1 => repeat (first | exact (Kd.R_reads' HO1015.out).2.2 | (with_reducible refine Kd.C_alloc ?_ _) | (with_reducible refine Kd.C_drewN ?_ _) | (with_reducible refine Kd.C_drew ?_))); (case side2 => exact (Kd.R_reads' HO1015.out).2.1); (case side3 => repeat (first | exact (Kd.R_reads' HO_6.out).2.2 | (with_reducible refine Kd.C_alloc ?_ _) | (with_reducible refine Kd.C_drewN ?_ _) | (with_reducible refine Kd.C_drew ?_))); (case side4 => exact (Kd.R_reads' HO_6.out).2.1); rintro e w' ⟨rfl, ⟨nd, rfl⟩⟩; refine ⟨_, rfl, ?_⟩))
               go_meet
               case rel => exact ⟨_, ((t1016 != t965)), (by first | rfl | (simp; done) | (simp [*]; done)), H', ⟨by have := HJ15.out; have := HJ52.out; first | omega | exact Nat.le_refl _⟩, ⟨by (try simp only [hl974001_52]); (try simp only [hl974002_52]); refine ZQ ?_; exact Kd.R_mono HO_10.out (fun _ hk => (And.intro (hk.1.1.1.1.2.1) (hk.1.1.1.1.2.2)))⟩, ⟨by (try simp only [hl974001_52]); (try simp only [hl974002_52]); refine ZQ ?_; exact Kd.R_mono HO_974001.out (fun _ hk => (And.intro (hk.1.1.1.1.2.1) (hk.1.1.1.1.2.2)))⟩, ⟨by (try simp only [hl974001_52]); (try simp only [hl974002_52]); refine ZQ ?_; exact Kd.R_mono HO_974002.out (fun _ hk => (And.intro (hk.1.1.1.1.2.1) (hk.1.1.1.1.2.2)))⟩, ⟨by (try simp only [hl974001_52]); (try simp only [hl974002_52]); refine ZS ?_; exact BK950.out⟩, ⟨by (try simp only [hl974001_52]); (try simp only [hl974002_52]); refine ZS ?_; exact BK973.out⟩, ⟨ZB⟩⟩
              ·replace c92 := Bool.eq_false_iff.mpr c92
               subst c92
               have H1 : (laws_FnExactSumBy.j2 kj52 t1001 t1000 true) = some r := by rw [if_neg (show ¬ (false = true) by decide)] at H; exact H
               clear H
               have H := H1
               clear H1
               have H' := Aside0.mk H
               clear H
               obtain ⟨Ao95, co95, eo95⟩ := Kd.R_slice HO1015.out
               subst eo95
               obtain ⟨Ao96, co96, eo96⟩ := Kd.R_slice HO_6.out
               subst eo96
               go_wp2_with (first | ((with_reducible refine gate_callee (f := 29) rfl ?_); refine goesL_ (some 102) rfl rfl Try.func29 (by kernel_rfl) rfl #[.slice Ao95 t1013.length co95, .slice Ao96 t962.length co96] rfl ZA ?_; (with_reducible refine (laws_eqInt64S.calls kj52 _ _ t1013 _ _ t962 false _ ?side1 ?side2 ?side3 ?side4 A91.out).mono ?_); (case side1 => repeat (first | exact (Kd.R_reads' HO1015.out).2.2 | (with_reducible refine Kd.C_alloc ?_ _) | (with_reducible refine Kd.C_drewN ?_ _) | (with_reducible refine Kd.C_drew ?_))); (case side2 => exact (Kd.R_reads' HO1015.out).2.1); (case side3 => repeat (first | exact (Kd.R_reads' HO_6.out).2.2 | (with_reducible refine Kd.C_alloc ?_ _) | (with_reducible refine Kd.C_drewN ?_ _) | (with_reducible refine Kd.C_drew ?_))); (case side4 => exact (Kd.R_reads' HO_6.out).2.1); rintro e w' ⟨rfl, ⟨nd, rfl⟩⟩; refine ⟨_, rfl, ?_⟩))
               go_meet
               case rel => exact ⟨_, (true), (by first | rfl | (simp; done) | (simp [*]; done)), H', ⟨by have := HJ15.out; have := HJ52.out; first | omega | exact Nat.le_refl _⟩, ⟨by (try simp only [hl974001_52]); (try simp only [hl974002_52]); refine ZQ ?_; exact Kd.R_mono HO_10.out (fun _ hk => (And.intro (hk.1.1.1.1.2.1) (hk.1.1.1.1.2.2)))⟩, ⟨by (try simp only [hl974001_52]); (try simp only [hl974002_52]); refine ZQ ?_; exact Kd.R_mono HO_974001.out (fun _ hk => (And.intro (hk.1.1.1.1.2.1) (hk.1.1.1.1.2.2)))⟩, ⟨by (try simp only [hl974001_52]); (try simp only [hl974002_52]); refine ZQ ?_; exact Kd.R_mono HO_974002.out (fun _ hk => (And.intro (hk.1.1.1.1.2.1) (hk.1.1.1.1.2.2)))⟩, ⟨by (try simp only [hl974001_52]); (try simp only [hl974002_52]); refine ZS ?_; exact BK950.out⟩, ⟨by (try simp only [hl974001_52]); (try simp only [hl974002_52]); refine ZS ?_; exact BK973.out⟩, ⟨ZB⟩⟩
             case rest =>
              clear HC80
              try clear c1
              try clear c2
              try clear p2
              try clear c3
              try clear c3b0
              try clear c3b1
              try clear c4
              try clear c5
              try clear c6
              try clear c6b0
              try clear c7
              try clear c8
              try clear c9
              try clear c14
              try clear c16
              try clear c19
              try clear c20
              try clear c27
              try clear c29
              try clear c30
              try clear c31
              try clear c38
              try clear c39
              try clear c44
              try clear c47
              try clear c50
              try clear c61
              try clear c65
              try clear c65b0
              try clear c67
              try clear c72
              try clear c75
              try clear c75b0
              try clear c76
              try clear c76b0
              try clear c76b1
              try clear c83
              try clear c92
              try clear hcz18_0
              try clear hcz18_1
              try clear hcz18_2
              try clear hcz20_0
              try clear hcz20_1
              try clear hcz20_2
              try clear hcz27_0
              try clear hcz27_1
              try clear hcz27_2
              try clear hcz31_0
              try clear hcz31_1
              try clear hcz31_2
              try clear hcz35_0
              try clear hcz35_1
              try clear hcz35_2
              try clear hcz62_0
              try clear hcz62_1
              try clear hcz62_2
              try clear hcz84_0
              try clear hcz84_1
              try clear hcz84_2
              try clear hcz8_0
              try clear hcz8_1
              try clear hcz8_2
              try clear hfz18_0
              try clear hfz18_1
              try clear hfz18_2
              try clear hfz20_0
              try clear hfz20_1
              try clear hfz20_2
              try clear hfz27_0
              try clear hfz27_1
              try clear hfz27_2
              try clear hfz31_0
              try clear hfz31_1
              try clear hfz31_2
              try clear hfz35_0
              try clear hfz35_1
              try clear hfz35_2
              try clear hfz62_0
              try clear hfz62_1
              try clear hfz62_2
              try clear hfz84_0
              try clear hfz84_1
              try clear hfz84_2
              try clear hfz8_0
              try clear hfz8_1
              try clear hfz8_2
              try clear p2
              obtain ⟨kq, x108_79, rfl, HA, HJ79, HO_10, HO_974001, HO_974002, BK950, BK973, HB⟩ := hcut
              have hl10_79 := (Kd.R_reads' HO_10.out).1
              rw [hl10_79] at HO_10
              (try simp only [hl10_79])
              (try simp only [hl10_79] at BK950)
              (try simp only [hl10_79] at BK973)
              (try simp only [hl10_79] at HO_974001)
              (try simp only [hl10_79] at HO_974002)
              cases kq with
              | zero => exact absurd HA.out (by simp [laws_FnExactSumBy.j2])
              | succ kj79 =>
               have H := HA.out
               clear HA
               simp only [laws_FnExactSumBy.j2] at H
               by_cases c97 : x108_79 = true
               ·subst c97
                have H1 : (some false) = some r := by rw [if_pos rfl] at H; exact H
                clear H
                have H := H1
                clear H1
                exact absurd (H.trans (congrArg some hT.out)) (by simp)
               ·replace c97 := Bool.eq_false_iff.mpr c97
                subst c97
                have H1 : ((laws_heldInt64S.f kj79 t1001 1).bind fun t1018 => (if t1018 < 0 then (some false) else (if t1018 = t1000 then (some true) else (some false)))) = some r := by rw [if_neg (show ¬ (false = true) by decide)] at H; exact H
                clear H
                have H := H1
                clear H1
                replace H := Option.bind_eq_some_iff.mp H
                obtain ⟨t1018, A980, H⟩ := H
                replace H : (if t1018 < 0 then (some false) else (if t1018 = t1000 then (some true) else (some false))) = some r := H
                have A98 := Aside0.mk A980
                clear A980
                by_cases c99 : t1018 < 0
                ·rw [if_pos c99] at H
                 have c99b0 : decide (t1018 < 0) = true := decide_eq_true c99
                 clear c99
                 exact absurd (H.trans (congrArg some hT.out)) (by simp)
                ·rw [if_neg c99] at H
                 have c99b0 : decide (t1018 < 0) = false := decide_eq_false c99
                 clear c99
                 by_cases c100 : t1018 = t1000
                 ·rw [if_pos c100] at H
                  have c100b0 : (t1018 == t1000) = true := beq_iff_eq.mpr c100
                  have c100b1 : (t1018 != t1000) = false := bne_eq_false_iff_eq.mpr c100
                  clear c100
                  obtain rfl := Option.some.inj H
                  go_wp2_with (first | ((with_reducible refine gate_callee (f := 31) rfl ?_); refine goesL_ (some 111) rfl rfl Try.func31 (by kernel_rfl) rfl #[.slice Ao81 t1001.length co81, .int .i64 1] rfl ZA ?_; (with_reducible refine (laws_heldInt64S.calls kj79 _ _ t1001 1 t1018 _ ?side1 ?side2 A98.out).mono ?_); (case side1 => repeat (first | exact (Kd.R_reads' HO_10.out).2.2 | (with_reducible refine Kd.C_alloc ?_ _) | (with_reducible refine Kd.C_drewN ?_ _) | (with_reducible refine Kd.C_drew ?_))); (case side2 => exact (Kd.R_reads' HO_10.out).2.1); rintro e w' ⟨rfl, ⟨nd, rfl⟩⟩; refine ⟨_, rfl, ?_⟩))
                  go_ret
                  exact ⟨by first | rfl | (simp [errW_none, errW_some] <;> rfl) | (simp [*, errW_none, errW_some] <;> rfl), ZB⟩
                 ·rw [if_neg c100] at H
                  have c100b0 : (t1018 == t1000) = false := beq_eq_false_iff_ne.mpr c100
                  have c100b1 : (t1018 != t1000) = true := bne_iff_ne.mpr c100
                  exact absurd (H.trans (congrArg some hT.out)) (by simp)
            ·rw [if_neg c76] at H
             have c76b0 : (t1002 == t1000) = false := beq_eq_false_iff_ne.mpr c76
             have c76b1 : (t1002 != t1000) = true := bne_iff_ne.mpr c76
             exact absurd (H.trans (congrArg some hT.out)) (by simp)
       ·replace c50 := Bool.eq_false_iff.mpr c50
        subst c50
        have H1 : (some false) = some r := by rw [if_neg (show ¬ (false = true) by decide)] at H; exact H
        clear H
        have H := H1
        clear H1
        exact absurd (H.trans (congrArg some hT.out)) (by simp)
      ·replace c47 := Bool.eq_false_iff.mpr c47
       subst c47
       have H1 : (some false) = some r := by rw [if_neg (show ¬ (false = true) by decide)] at H; exact H
       clear H
       have H := H1
       clear H1
       exact absurd (H.trans (congrArg some hT.out)) (by simp)

end Go.Proofs.Ytaclapojgdekpaa.X
