/- Contracts of functions that the law reaches, printed by a program of this session; Lean checks them. -/
import Derived.Test.YtaclapojgdekpaaCValueByX0
import Derived.Test.YtaclapojgdekpaaCValueByX1
import Derived.Test.YtaclapojgdekpaaCValueByX10
import Derived.Test.YtaclapojgdekpaaCValueByX17
import Derived.Test.YtaclapojgdekpaaCValueByX19
import Derived.Test.YtaclapojgdekpaaCValueByX2
import Derived.Test.YtaclapojgdekpaaCValueByX20
import Derived.Test.YtaclapojgdekpaaCValueByX34
import Derived.Test.YtaclapojgdekpaaCValueByX35
import Derived.Test.YtaclapojgdekpaaCValueByX5
import Derived.Test.YtaclapojgdekpaaCValueByX9
import Derived.Test.YtaclapojgdekpaaCValueByXZ
namespace Go.Proofs.Ytaclapojgdekpaa.X
open Go.RowKit Go.Proofs.YtaclapojgdekpaaW.PrintWords Go.Proofs.YtaclapojgdekpaaW.PrintLast Go.Proofs.YtaclapojgdekpaaW.PrintMore
attribute [local go_sem] max2_int min2_int max_two min_two max_three min_three max_four min_four   -- for this text's walks alone
set_option linter.unusedVariables false
set_option linter.unusedSimpArgs false

/-! ### laws_FnExactValueBy: function 10 -/
def laws_FnExactValueBy.j0 : Nat → List Int → List Int → Bool → Int → List Int → List Int → Int → List Int → List Int → Option (Bool)
 | 0, _, _, _, _, _, _, _, _, _ => none
 | k + 1, x1, x11, x49, x1114000, x1114001, x1114002, x1135000, x1135001, x1135002 => if x49 = true then (some false) else ((laws_toJacobi.f k x1114000 x1114001 x1114002).bind fun bt1140 => ((laws_eqJacobi.f k x1135000 x1135001 x1135002 bt1140.1 bt1140.2.1 bt1140.2.2).bind fun t1147 => (if t1147 = true then ((laws_toInt64S.f k x1).bind fun t1148 => ((laws_eqInt64S.f k x11 t1148).bind fun t1151 => (if t1151 = true then (some true) else (some false)))) else (some false))))
def laws_FnExactValueBy.f (k : Nat) (a0_0 : Int) (l0_1 : List Int) (l0_2 : List Int) (l1 : List Int) (a2 : Int) : Option (Bool) := if (l1.length : Int) > 1048576 then (some true) else ((laws_szJacobi.f a0_0 l0_1 l0_2 1048576).bind fun t1114 => (if t1114 < 0 then (some true) else ((laws_toJacobi.f k a0_0 l0_1 l0_2).bind fun bt1115 => ((laws_toInt64S.f k l1).bind fun t1122 => ((spec_ValueBy.f k bt1115.1 bt1115.2.1 bt1115.2.2 t1122 a2).bind fun bt1125 => ((laws_toJacobi.f k a0_0 l0_1 l0_2).bind fun bt1127 => ((laws_toInt64S.f k l1).bind fun t1135 => ((impl_ValueBy.f k bt1127.1 bt1127.2.1 bt1127.2.2 t1135 a2).bind fun bt1138 => (if bt1138.1 = bt1125.1 then (laws_FnExactValueBy.j0 k l1 t1135 (bt1138.2 != bt1125.2) a0_0 l0_1 l0_2 bt1127.1 bt1127.2.1 bt1127.2.2) else (laws_FnExactValueBy.j0 k l1 t1135 true a0_0 l0_1 l0_2 bt1127.1 bt1127.2.1 bt1127.2.2))))))))))
theorem laws_FnExactValueBy.mono_l : ∀ k, (∀ y0 y1 y2 y3 y4 y5 y6 y7 y8, LeO (laws_FnExactValueBy.j0 k y0 y1 y2 y3 y4 y5 y6 y7 y8) (laws_FnExactValueBy.j0 (k + 1) y0 y1 y2 y3 y4 y5 y6 y7 y8))
 | 0 => fun _ _ _ _ _ _ _ _ _ r h => by simp [laws_FnExactValueBy.j0] at h
 | k + 1 => by
  have ih0 := laws_FnExactValueBy.mono_l k
  ·intro y0 y1 y2 y3 y4 y5 y6 y7 y8
   unfold laws_FnExactValueBy.j0
   repeat' first
   | (with_reducible exact ih0 _ _ _ _ _ _ _ _ _)
   | (with_reducible exact impl_ValueBy.mono _ _ _ _ _ _)
   | (with_reducible exact laws_eqInt64S.mono _ _ _)
   | (with_reducible exact laws_eqJacobi.mono _ _ _ _ _ _ _)
   | (with_reducible exact laws_toInt64S.mono _ _)
   | (with_reducible exact laws_toJacobi.mono _ _ _ _)
   | (with_reducible exact spec_ValueBy.mono _ _ _ _ _ _)
   | (with_reducible exact LeO.refl _)
   | (with_reducible exact LeO.none _)
   | (with_reducible refine LeO.ite ?_ ?_)
   | (with_reducible refine LeO.bind ?_ (fun _ => ?_))
   | exact ih0 _ _ _ _ _ _ _ _ _
   | exact impl_ValueBy.mono _ _ _ _ _ _
   | exact laws_eqInt64S.mono _ _ _
   | exact laws_eqJacobi.mono _ _ _ _ _ _ _
   | exact laws_toInt64S.mono _ _
   | exact laws_toJacobi.mono _ _ _ _
   | exact spec_ValueBy.mono _ _ _ _ _ _
   | exact LeO.none _
   | refine LeO.ite ?_ ?_
   | refine LeO.bind ?_ (fun _ => ?_)
theorem laws_FnExactValueBy.mono : ∀ a0 a1 a2 a3 a4 k, LeO (laws_FnExactValueBy.f k a0 a1 a2 a3 a4) (laws_FnExactValueBy.f (k + 1) a0 a1 a2 a3 a4) := by
 intro a0 a1 a2 a3 a4 k
 have ih0 := laws_FnExactValueBy.mono_l k
 unfold laws_FnExactValueBy.f
 repeat' first
   | (with_reducible exact ih0 _ _ _ _ _ _ _ _ _)
   | (with_reducible exact impl_ValueBy.mono _ _ _ _ _ _)
   | (with_reducible exact laws_eqInt64S.mono _ _ _)
   | (with_reducible exact laws_eqJacobi.mono _ _ _ _ _ _ _)
   | (with_reducible exact laws_toInt64S.mono _ _)
   | (with_reducible exact laws_toJacobi.mono _ _ _ _)
   | (with_reducible exact spec_ValueBy.mono _ _ _ _ _ _)
   | (with_reducible exact LeO.refl _)
   | (with_reducible exact LeO.none _)
   | (with_reducible refine LeO.ite ?_ ?_)
   | (with_reducible refine LeO.bind ?_ (fun _ => ?_))
   | exact ih0 _ _ _ _ _ _ _ _ _
   | exact impl_ValueBy.mono _ _ _ _ _ _
   | exact laws_eqInt64S.mono _ _ _
   | exact laws_eqJacobi.mono _ _ _ _ _ _ _
   | exact laws_toInt64S.mono _ _
   | exact laws_toJacobi.mono _ _ _ _
   | exact spec_ValueBy.mono _ _ _ _ _ _
   | exact LeO.none _
   | refine LeO.ite ?_ ?_
   | refine LeO.bind ?_ (fun _ => ?_)
set_option maxHeartbeats 8000000 in
set_option maxRecDepth 100000 in
theorem laws_FnExactValueBy.calls (k : Nat) (a0_0 : Int) (A0_1 : Option Addr) (c0_1 : Nat) (l0_1 : List Int) (A0_2 : Option Addr) (c0_2 : Nat) (l0_2 : List Int) (A1 : Option Addr) (c1 : Nat) (l1 : List Int) (a2 : Int) (r : Bool) (w : World) (hr0_1 : Kd.C (Kd.int .i64) w A0_1 l0_1.length l0_1) (hc0_1 : l0_1.length ≤ c0_1) (hr0_2 : Kd.C (Kd.int .i64) w A0_2 l0_2.length l0_2) (hc0_2 : l0_2.length ≤ c0_2) (hr1 : Kd.C (Kd.int .i64) w A1 l1.length l1) (hc1 : l1.length ≤ c1) (hT : Aside0 (r = true)) (h : laws_FnExactValueBy.f k a0_0 l0_1 l0_2 l1 a2 = some r) :
  Calls Try.prog 10 #[.agg #[.int .i64 a0_0, .slice A0_1 l0_1.length c0_1, .slice A0_2 l0_2.length c0_2], .slice A1 l1.length c1, .int .i64 a2] w fun e w' => e = .returned (.bool r) ∧ Below w.heap.size w w' := by
 have hu24 := Try.underlying24
 have hu29 := Try.underlying29
 have HR0_1 := Aside0.mk hr0_1
 have HC0_1 := Aside0.mk hc0_1
 clear hr0_1 hc0_1
 have HR0_2 := Aside0.mk hr0_2
 have HC0_2 := Aside0.mk hc0_2
 clear hr0_2 hc0_2
 have HR1 := Aside0.mk hr1
 have HC1 := Aside0.mk hc1
 clear hr1 hc1
 have HB := Aside0.mk (Below.refl w.heap.size w)
 have H : (if (l1.length : Int) > 1048576 then (some true) else ((laws_szJacobi.f a0_0 l0_1 l0_2 1048576).bind fun t1114 => (if t1114 < 0 then (some true) else ((laws_toJacobi.f k a0_0 l0_1 l0_2).bind fun bt1115 => ((laws_toInt64S.f k l1).bind fun t1122 => ((spec_ValueBy.f k bt1115.1 bt1115.2.1 bt1115.2.2 t1122 a2).bind fun bt1125 => ((laws_toJacobi.f k a0_0 l0_1 l0_2).bind fun bt1127 => ((laws_toInt64S.f k l1).bind fun t1135 => ((impl_ValueBy.f k bt1127.1 bt1127.2.1 bt1127.2.2 t1135 a2).bind fun bt1138 => (if bt1138.1 = bt1125.1 then (laws_FnExactValueBy.j0 k l1 t1135 (bt1138.2 != bt1125.2) a0_0 l0_1 l0_2 bt1127.1 bt1127.2.1 bt1127.2.2) else (laws_FnExactValueBy.j0 k l1 t1135 true a0_0 l0_1 l0_2 bt1127.1 bt1127.2.1 bt1127.2.2))))))))))) = some r := h
 clear h
 by_cases c4 : (l1.length : Int) > 1048576
 ·rw [if_pos c4] at H
  have c4b0 : decide (1048576 < (l1.length : Int)) = true := decide_eq_true c4
  have c4b1 : decide (1048576 < l1.length) = true := decide_eq_true (by omega)
  clear c4
  obtain rfl := Option.some.inj H
  go_enter Try.func10, Try.ntmps10
  go_wp2_with (first | ((with_reducible refine gate_dst (N := 3) rfl ?_); refine box_event ?hg (N := 3) ?hd (cs := #[.int .i64 a0_0, .slice A0_1 l0_1.length c0_1, .slice A0_2 l0_2.length c0_2]) (t := 24) ?hr ?_; (case hd => rfl); (case hg => rfl); (case hr => first | (go_simp; done) | (go_simp; rfl)); intro gb1113 hg w5 hbox hb; have n0_ := Aside0.mk (below_step ZB hb); have n1_ := Aside0.mk (hbox); have n2_ := Aside0.mk ((ZG hg : w.heap.size ≤ gb1113)); have n3_ := Aside0.mk ((ZG hg : w.heap.size ≤ gb1113)); clear HB; have HB := n0_; have BK1113 := n1_; have GW1113 := n2_; have GE1113 := n3_; clear n0_ n1_ n2_ n3_; clear hb hbox hg))
  go_ret
  exact ⟨by first | rfl | (simp [errW_none, errW_some] <;> rfl) | (simp [*, errW_none, errW_some] <;> rfl), ZB⟩
 ·rw [if_neg c4] at H
  have c4b0 : decide (1048576 < (l1.length : Int)) = false := decide_eq_false c4
  have c4b1 : decide (1048576 < l1.length) = false := decide_eq_false (by omega)
  clear c4
  replace H := Option.bind_eq_some_iff.mp H
  obtain ⟨t1114, A60, H⟩ := H
  replace H : (if t1114 < 0 then (some true) else ((laws_toJacobi.f k a0_0 l0_1 l0_2).bind fun bt1115 => ((laws_toInt64S.f k l1).bind fun t1122 => ((spec_ValueBy.f k bt1115.1 bt1115.2.1 bt1115.2.2 t1122 a2).bind fun bt1125 => ((laws_toJacobi.f k a0_0 l0_1 l0_2).bind fun bt1127 => ((laws_toInt64S.f k l1).bind fun t1135 => ((impl_ValueBy.f k bt1127.1 bt1127.2.1 bt1127.2.2 t1135 a2).bind fun bt1138 => (if bt1138.1 = bt1125.1 then (laws_FnExactValueBy.j0 k l1 t1135 (bt1138.2 != bt1125.2) a0_0 l0_1 l0_2 bt1127.1 bt1127.2.1 bt1127.2.2) else (laws_FnExactValueBy.j0 k l1 t1135 true a0_0 l0_1 l0_2 bt1127.1 bt1127.2.1 bt1127.2.2))))))))) = some r := H
  have A6 := Aside0.mk A60
  clear A60
  by_cases c7 : t1114 < 0
  ·rw [if_pos c7] at H
   have c7b0 : decide (t1114 < 0) = true := decide_eq_true c7
   clear c7
   obtain rfl := Option.some.inj H
   go_enter Try.func10, Try.ntmps10
   go_wp2_with (first | ((with_reducible refine gate_dst (N := 3) rfl ?_); refine box_event ?hg (N := 3) ?hd (cs := #[.int .i64 a0_0, .slice A0_1 l0_1.length c0_1, .slice A0_2 l0_2.length c0_2]) (t := 24) ?hr ?_; (case hd => rfl); (case hg => rfl); (case hr => first | (go_simp; done) | (go_simp; rfl)); intro gb1113 hg w8 hbox hb; have n0_ := Aside0.mk (below_step ZB hb); have n1_ := Aside0.mk (hbox); have n2_ := Aside0.mk ((ZG hg : w.heap.size ≤ gb1113)); have n3_ := Aside0.mk ((ZG hg : w.heap.size ≤ gb1113)); clear HB; have HB := n0_; have BK1113 := n1_; have GW1113 := n2_; have GE1113 := n3_; clear n0_ n1_ n2_ n3_; clear hb hbox hg; obtain ⟨hcz9_0, hcz9_1, hcz9_2, hfz9_0, hfz9_1, hfz9_2⟩ := ZD3 BK1113) | ((with_reducible refine gate_callee (f := 14) rfl ?_); refine goesL_ (some 19) rfl rfl Try.func14 (by kernel_rfl) rfl #[.agg #[.int .i64 a0_0, .slice A0_1 l0_1.length c0_1, .slice A0_2 l0_2.length c0_2], .int .i64 1048576] rfl ZA ?_; (with_reducible refine (laws_szJacobi.calls a0_0 _ _ l0_1 _ _ l0_2 1048576 t1114 _ ?side1 ?side2 ?side3 ?side4 A6.out).mono ?_); (case side1 => exact ZC HR0_1); (case side2 => exact HC0_1.out); (case side3 => exact ZC HR0_2); (case side4 => exact HC0_2.out); rintro e w10 ⟨rfl, hb⟩; refine ⟨_, rfl, ?_⟩; have n0_ := ZL BK1113 hb; have n1_ := Aside0.mk (below_step ZB hb); clear BK1113; clear HB; have BK1113 := n0_; have HB := n1_; clear n0_ n1_; (try clear hb); (try clear hb2); (try clear hk); (try clear hi)))
   go_ret
   exact ⟨by first | rfl | (simp [errW_none, errW_some] <;> rfl) | (simp [*, errW_none, errW_some] <;> rfl), ZB⟩
  ·rw [if_neg c7] at H
   have c7b0 : decide (t1114 < 0) = false := decide_eq_false c7
   clear c7
   replace H := Option.bind_eq_some_iff.mp H
   obtain ⟨⟨t1115, t1116, t1119⟩, A110, H⟩ := H
   replace H : ((laws_toInt64S.f k l1).bind fun t1122 => ((spec_ValueBy.f k t1115 t1116 t1119 t1122 a2).bind fun bt1125 => ((laws_toJacobi.f k a0_0 l0_1 l0_2).bind fun bt1127 => ((laws_toInt64S.f k l1).bind fun t1135 => ((impl_ValueBy.f k bt1127.1 bt1127.2.1 bt1127.2.2 t1135 a2).bind fun bt1138 => (if bt1138.1 = bt1125.1 then (laws_FnExactValueBy.j0 k l1 t1135 (bt1138.2 != bt1125.2) a0_0 l0_1 l0_2 bt1127.1 bt1127.2.1 bt1127.2.2) else (laws_FnExactValueBy.j0 k l1 t1135 true a0_0 l0_1 l0_2 bt1127.1 bt1127.2.1 bt1127.2.2))))))) = some r := H
   have A11 := Aside0.mk A110
   clear A110
   replace H := Option.bind_eq_some_iff.mp H
   obtain ⟨t1122, A120, H⟩ := H
   replace H : ((spec_ValueBy.f k t1115 t1116 t1119 t1122 a2).bind fun bt1125 => ((laws_toJacobi.f k a0_0 l0_1 l0_2).bind fun bt1127 => ((laws_toInt64S.f k l1).bind fun t1135 => ((impl_ValueBy.f k bt1127.1 bt1127.2.1 bt1127.2.2 t1135 a2).bind fun bt1138 => (if bt1138.1 = bt1125.1 then (laws_FnExactValueBy.j0 k l1 t1135 (bt1138.2 != bt1125.2) a0_0 l0_1 l0_2 bt1127.1 bt1127.2.1 bt1127.2.2) else (laws_FnExactValueBy.j0 k l1 t1135 true a0_0 l0_1 l0_2 bt1127.1 bt1127.2.1 bt1127.2.2)))))) = some r := H
   have A12 := Aside0.mk A120
   clear A120
   replace H := Option.bind_eq_some_iff.mp H
   obtain ⟨⟨t1125, t1126⟩, A130, H⟩ := H
   replace H : ((laws_toJacobi.f k a0_0 l0_1 l0_2).bind fun bt1127 => ((laws_toInt64S.f k l1).bind fun t1135 => ((impl_ValueBy.f k bt1127.1 bt1127.2.1 bt1127.2.2 t1135 a2).bind fun bt1138 => (if bt1138.1 = t1125 then (laws_FnExactValueBy.j0 k l1 t1135 (bt1138.2 != t1126) a0_0 l0_1 l0_2 bt1127.1 bt1127.2.1 bt1127.2.2) else (laws_FnExactValueBy.j0 k l1 t1135 true a0_0 l0_1 l0_2 bt1127.1 bt1127.2.1 bt1127.2.2))))) = some r := H
   have A13 := Aside0.mk A130
   clear A130
   replace H := Option.bind_eq_some_iff.mp H
   obtain ⟨⟨t1127, t1128, t1131⟩, A140, H⟩ := H
   replace H : ((laws_toInt64S.f k l1).bind fun t1135 => ((impl_ValueBy.f k t1127 t1128 t1131 t1135 a2).bind fun bt1138 => (if bt1138.1 = t1125 then (laws_FnExactValueBy.j0 k l1 t1135 (bt1138.2 != t1126) a0_0 l0_1 l0_2 t1127 t1128 t1131) else (laws_FnExactValueBy.j0 k l1 t1135 true a0_0 l0_1 l0_2 t1127 t1128 t1131)))) = some r := H
   have A14 := Aside0.mk A140
   clear A140
   replace H := Option.bind_eq_some_iff.mp H
   obtain ⟨t1135, A150, H⟩ := H
   replace H : ((impl_ValueBy.f k t1127 t1128 t1131 t1135 a2).bind fun bt1138 => (if bt1138.1 = t1125 then (laws_FnExactValueBy.j0 k l1 t1135 (bt1138.2 != t1126) a0_0 l0_1 l0_2 t1127 t1128 t1131) else (laws_FnExactValueBy.j0 k l1 t1135 true a0_0 l0_1 l0_2 t1127 t1128 t1131))) = some r := H
   have A15 := Aside0.mk A150
   clear A150
   replace H := Option.bind_eq_some_iff.mp H
   obtain ⟨⟨t1138, t1139⟩, A160, H⟩ := H
   replace H : (if t1138 = t1125 then (laws_FnExactValueBy.j0 k l1 t1135 (t1139 != t1126) a0_0 l0_1 l0_2 t1127 t1128 t1131) else (laws_FnExactValueBy.j0 k l1 t1135 true a0_0 l0_1 l0_2 t1127 t1128 t1131)) = some r := H
   have A16 := Aside0.mk A160
   clear A160
   have HC17 := Aside0.mk H
   clear H
   go_enter Try.func10, Try.ntmps10
   go_upto_region 11 with (first | ((with_reducible refine gate_dst (N := 3) rfl ?_); refine box_event ?hg (N := 3) ?hd (cs := #[.int .i64 a0_0, .slice A0_1 l0_1.length c0_1, .slice A0_2 l0_2.length c0_2]) (t := 24) ?hr ?_; (case hd => rfl); (case hg => rfl); (case hr => first | (go_simp; done) | (go_simp; rfl)); intro gb1113 hg w18 hbox hb; have n0_ := Aside0.mk (below_step ZB hb); have n1_ := Aside0.mk (hbox); have n2_ := Aside0.mk ((ZG hg : w.heap.size ≤ gb1113)); have n3_ := Aside0.mk ((ZG hg : w.heap.size ≤ gb1113)); clear HB; have HB := n0_; have BK1113 := n1_; have GW1113 := n2_; have GE1113 := n3_; clear n0_ n1_ n2_ n3_; clear hb hbox hg; obtain ⟨hcz19_0, hcz19_1, hcz19_2, hfz19_0, hfz19_1, hfz19_2⟩ := ZD3 BK1113) | ((with_reducible refine gate_callee (f := 14) rfl ?_); refine goesL_ (some 19) rfl rfl Try.func14 (by kernel_rfl) rfl #[.agg #[.int .i64 a0_0, .slice A0_1 l0_1.length c0_1, .slice A0_2 l0_2.length c0_2], .int .i64 1048576] rfl ZA ?_; (with_reducible refine (laws_szJacobi.calls a0_0 _ _ l0_1 _ _ l0_2 1048576 t1114 _ ?side1 ?side2 ?side3 ?side4 A6.out).mono ?_); (case side1 => exact ZC HR0_1); (case side2 => exact HC0_1.out); (case side3 => exact ZC HR0_2); (case side4 => exact HC0_2.out); rintro e w20 ⟨rfl, hb⟩; refine ⟨_, rfl, ?_⟩; have n0_ := ZL BK1113 hb; have n1_ := Aside0.mk (below_step ZB hb); clear BK1113; clear HB; have BK1113 := n0_; have HB := n1_; clear n0_ n1_; (try clear hb); (try clear hb2); (try clear hk); (try clear hi); obtain ⟨hcz21_0, hcz21_1, hcz21_2, hfz21_0, hfz21_1, hfz21_2⟩ := ZD3 BK1113) | ((with_reducible refine gate_callee (f := 16) rfl ?_); refine goesL_ (some 24) rfl rfl Try.func16 (by kernel_rfl) rfl #[.agg #[.int .i64 a0_0, .slice A0_1 l0_1.length c0_1, .slice A0_2 l0_2.length c0_2]] rfl ZA ?_; (with_reducible refine (laws_toJacobi.calls k a0_0 _ _ l0_1 _ _ l0_2 t1115 t1116 t1119 _ ?side1 ?side2 ?side3 ?side4 A11.out).mono ?_); (case side1 => exact ZC HR0_1); (case side2 => exact HC0_1.out); (case side3 => exact ZC HR0_2); (case side4 => exact HC0_2.out); rintro e w22 ⟨v1117, v1120, rfl, ho0, ho1, hb⟩; refine ⟨_, rfl, ?_⟩; have n0_ := Aside0.mk (Kd.R_lower ho0 (below_size ZB)); have n1_ := Aside0.mk (Kd.R_lower ho1 (below_size ZB)); have n2_ := ZL BK1113 hb; have n3_ := Aside0.mk (below_step ZB hb); clear BK1113; clear HB; have HO1118 := n0_; have HO1121 := n1_; have BK1113 := n2_; have HB := n3_; clear n0_ n1_ n2_ n3_; (try clear hb); (try clear hb2); (try clear hk); (try clear hi); (try clear ho0); (try clear ho1)) | ((with_reducible refine gate_callee (f := 27) rfl ?_); refine goesL_ (some 26) rfl rfl Try.func27 (by kernel_rfl) rfl #[.slice A1 l1.length c1] rfl ZA ?_; (with_reducible refine (laws_toInt64S.calls k _ _ l1 t1122 _ ?side1 ?side2 A12.out).mono ?_); (case side1 => exact ZC HR1); (case side2 => exact HC1.out); rintro e w23 ⟨v1123, rfl, ho0, hb⟩; refine ⟨_, rfl, ?_⟩; have n0_ := Aside0.mk (Kd.R_elder' (ZR HO1118) (Kd.R_base ho0) hb); have n1_ := Aside0.mk (Kd.R_elder' (ZR HO1121) (Kd.R_base ho0) hb); have n2_ := Aside0.mk (Kd.R_lower (Kd.R_new' (Kd.R_new' ho0 (Kd.R_lt (ZR HO1118))) (Kd.R_lt (ZR HO1121))) (below_size ZB)); have n3_ := ZL BK1113 hb; have n4_ := Aside0.mk (below_step ZB hb); clear HO1118; clear HO1121; clear BK1113; clear HB; have HO1118 := n0_; have HO1121 := n1_; have HO1124 := n2_; have BK1113 := n3_; have HB := n4_; clear n0_ n1_ n2_ n3_ n4_; (try clear hb); (try clear hb2); (try clear hk); (try clear hi); (try clear ho0); obtain ⟨Ao24, co24, eo24⟩ := Kd.R_slice HO1118.out; subst eo24; obtain ⟨Ao25, co25, eo25⟩ := Kd.R_slice HO1121.out; subst eo25; obtain ⟨Ao26, co26, eo26⟩ := Kd.R_slice HO1124.out; subst eo26) | ((with_reducible refine gate_callee (f := 40) rfl ?_); refine goesL_ (some 28) rfl rfl Try.func40 (by kernel_rfl) rfl #[.agg #[.int .i64 t1115, .slice Ao24 t1116.length co24, .slice Ao25 t1119.length co25], .slice Ao26 t1122.length co26, .int .i64 a2] rfl ZA ?_; (with_reducible refine (spec_ValueBy.calls k t1115 _ _ t1116 _ _ t1119 _ _ t1122 a2 t1125 t1126 _ ?side1 ?side2 ?side3 ?side4 ?side5 ?side6 A13.out).mono ?_); (case side1 => repeat (first | exact (Kd.R_reads' HO1118.out).2.2 | (with_reducible refine Kd.C_alloc ?_ _) | (with_reducible refine Kd.C_drewN ?_ _) | (with_reducible refine Kd.C_drew ?_))); (case side2 => exact (Kd.R_reads' HO1118.out).2.1); (case side3 => repeat (first | exact (Kd.R_reads' HO1121.out).2.2 | (with_reducible refine Kd.C_alloc ?_ _) | (with_reducible refine Kd.C_drewN ?_ _) | (with_reducible refine Kd.C_drew ?_))); (case side4 => exact (Kd.R_reads' HO1121.out).2.1); (case side5 => repeat (first | exact (Kd.R_reads' HO1124.out).2.2 | (with_reducible refine Kd.C_alloc ?_ _) | (with_reducible refine Kd.C_drewN ?_ _) | (with_reducible refine Kd.C_drew ?_))); (case side6 => exact (Kd.R_reads' HO1124.out).2.1); rintro e w27 ⟨rfl, hb⟩; refine ⟨_, rfl, ?_⟩; have n0_ := Aside0.mk (Kd.R_below (ZR HO1118) hb); have n1_ := Aside0.mk (Kd.R_below (ZR HO1121) hb); have n2_ := Aside0.mk (Kd.R_below (ZR HO1124) hb); have n3_ := ZL BK1113 hb; have n4_ := Aside0.mk (below_step ZB hb); clear HO1118; clear HO1121; clear HO1124; clear BK1113; clear HB; have HO1118 := n0_; have HO1121 := n1_; have HO1124 := n2_; have BK1113 := n3_; have HB := n4_; clear n0_ n1_ n2_ n3_ n4_; (try clear hb); (try clear hb2); (try clear hk); (try clear hi); obtain ⟨hcz28_0, hcz28_1, hcz28_2, hfz28_0, hfz28_1, hfz28_2⟩ := ZD3 BK1113) | ((with_reducible refine gate_callee (f := 16) rfl ?_); refine goesL_ (some 32) rfl rfl Try.func16 (by kernel_rfl) rfl #[.agg #[.int .i64 a0_0, .slice A0_1 l0_1.length c0_1, .slice A0_2 l0_2.length c0_2]] rfl ZA ?_; (with_reducible refine (laws_toJacobi.calls k a0_0 _ _ l0_1 _ _ l0_2 t1127 t1128 t1131 _ ?side1 ?side2 ?side3 ?side4 A14.out).mono ?_); (case side1 => exact ZC HR0_1); (case side2 => exact HC0_1.out); (case side3 => exact ZC HR0_2); (case side4 => exact HC0_2.out); rintro e w29 ⟨v1129, v1132, rfl, ho0, ho1, hb⟩; refine ⟨_, rfl, ?_⟩; have n0_ := Aside0.mk (Kd.R_mono (Kd.R_told (Kd.R_told (Kd.R_old (ZR HO1118) hb) (Kd.R_base ho0)) (Kd.R_base ho1)) (fun _ h_ => h_.1)); have n1_ := Aside0.mk (Kd.R_mono (Kd.R_told (Kd.R_told (Kd.R_old (ZR HO1121) hb) (Kd.R_base ho0)) (Kd.R_base ho1)) (fun _ h_ => h_.1)); have n2_ := Aside0.mk (Kd.R_mono (Kd.R_told (Kd.R_told (Kd.R_old (ZR HO1124) hb) (Kd.R_base ho0)) (Kd.R_base ho1)) (fun _ h_ => h_.1)); have n3_ := Aside0.mk (Kd.R_lower (Kd.R_new' (Kd.R_new' (Kd.R_new' ho0 (Kd.R_lt (ZR HO1118))) (Kd.R_lt (ZR HO1121))) (Kd.R_lt (ZR HO1124))) (below_size ZB)); have n4_ := Aside0.mk (Kd.R_lower (Kd.R_new' (Kd.R_new' (Kd.R_new' ho1 (Kd.R_lt (ZR HO1118))) (Kd.R_lt (ZR HO1121))) (Kd.R_lt (ZR HO1124))) (below_size ZB)); have n5_ := ZL BK1113 hb; have n6_ := Aside0.mk (below_step ZB hb); clear HO1118; clear HO1121; clear HO1124; clear BK1113; clear HB; have HO1118 := n0_; have HO1121 := n1_; have HO1124 := n2_; have HO1130 := n3_; have HO1133 := n4_; have BK1113 := n5_; have HB := n6_; clear n0_ n1_ n2_ n3_ n4_ n5_ n6_; (try clear hb); (try clear hb2); (try clear hk); (try clear hi); (try clear ho0); (try clear ho1)) | ((with_reducible refine gate_dst (N := 10) rfl ?_); refine box_event ?hg (N := 10) ?hd (cs := #[.int .i64 0, .slice none 0 0, .slice none 0 0]) (t := 29) ?hr ?_; (case hd => rfl); (case hg => rfl); (case hr => first | (go_simp; done) | (go_simp; rfl)); intro gb1134 hg w30 hbox hb; have n0_ := Aside0.mk (Kd.R_below (ZR HO1118) hb); have n1_ := Aside0.mk (Kd.R_below (ZR HO1121) hb); have n2_ := Aside0.mk (Kd.R_below (ZR HO1124) hb); have n3_ := Aside0.mk (Kd.R_below (ZR HO1130) hb); have n4_ := Aside0.mk (Kd.R_below (ZR HO1133) hb); have n5_ := ZL BK1113 hb; have n6_ := Aside0.mk (below_step ZB hb); have n7_ := Aside0.mk (hbox); have n8_ := Aside0.mk ((ZG hg : w.heap.size ≤ gb1134)); have n9_ := Aside0.mk ((ZG hg : w.heap.size ≤ gb1134)); have n10_ := Aside0.mk ((ZN hg BK1113 : gb1113 ≠ gb1134)); have n11_ := Aside0.mk ((ZM hg BK1113 : gb1134 ≠ gb1113)); clear HO1118; clear HO1121; clear HO1124; clear HO1130; clear HO1133; clear BK1113; clear HB; have HO1118 := n0_; have HO1121 := n1_; have HO1124 := n2_; have HO1130 := n3_; have HO1133 := n4_; have BK1113 := n5_; have HB := n6_; have BK1134 := n7_; have GW1134 := n8_; have GE1134 := n9_; have NB1113_1134 := n10_; have NB1134_1113 := n11_; clear n0_ n1_ n2_ n3_ n4_ n5_ n6_ n7_ n8_ n9_ n10_ n11_; clear hb hbox hg; have hnb31 := NB1134_1113.out; have hnc31 := NB1113_1134.out; obtain ⟨hcz32_0, hcz32_1, hcz32_2, hfz32_0, hfz32_1, hfz32_2⟩ := ZD3 BK1134; obtain ⟨Ao33, co33, eo33⟩ := Kd.R_slice HO1130.out; subst eo33; obtain ⟨Ao34, co34, eo34⟩ := Kd.R_slice HO1133.out; subst eo34) | ((with_reducible refine gate_callee (f := 27) rfl ?_); refine goesL_ (some 34) rfl rfl Try.func27 (by kernel_rfl) rfl #[.slice A1 l1.length c1] rfl ZA ?_; (with_reducible refine (laws_toInt64S.calls k _ _ l1 t1135 _ ?side1 ?side2 A15.out).mono ?_); (case side1 => exact Kd.C_below HR1.out ZB); (case side2 => exact HC1.out); rintro e w35 ⟨v1136, rfl, ho0, hb⟩; refine ⟨_, rfl, ?_⟩; have n0_ := Aside0.mk (Kd.R_elder' (ZQ (ZF3 HO1118 BK1134 (.int .i64 t1127) (.slice Ao33 t1128.length co33) (.slice Ao34 t1131.length co34))) (Kd.R_base ho0) hb); have n1_ := Aside0.mk (Kd.R_elder' (ZQ (ZF3 HO1121 BK1134 (.int .i64 t1127) (.slice Ao33 t1128.length co33) (.slice Ao34 t1131.length co34))) (Kd.R_base ho0) hb); have n2_ := Aside0.mk (Kd.R_elder' (ZQ (ZF3 HO1124 BK1134 (.int .i64 t1127) (.slice Ao33 t1128.length co33) (.slice Ao34 t1131.length co34))) (Kd.R_base ho0) hb); have n3_ := Aside0.mk (Kd.R_elder' (ZQ (ZF3 HO1130 BK1134 (.int .i64 t1127) (.slice Ao33 t1128.length co33) (.slice Ao34 t1131.length co34))) (Kd.R_base ho0) hb); have n4_ := Aside0.mk (Kd.R_elder' (ZQ (ZF3 HO1133 BK1134 (.int .i64 t1127) (.slice Ao33 t1128.length co33) (.slice Ao34 t1131.length co34))) (Kd.R_base ho0) hb); have n5_ := Aside0.mk (Kd.R_lower (Kd.R_new' (Kd.R_new' (Kd.R_new' (Kd.R_new' (Kd.R_new' ho0 (Kd.R_lt (ZQ (ZF3 HO1118 BK1134 (.int .i64 t1127) (.slice Ao33 t1128.length co33) (.slice Ao34 t1131.length co34))))) (Kd.R_lt (ZQ (ZF3 HO1121 BK1134 (.int .i64 t1127) (.slice Ao33 t1128.length co33) (.slice Ao34 t1131.length co34))))) (Kd.R_lt (ZQ (ZF3 HO1124 BK1134 (.int .i64 t1127) (.slice Ao33 t1128.length co33) (.slice Ao34 t1131.length co34))))) (Kd.R_lt (ZQ (ZF3 HO1130 BK1134 (.int .i64 t1127) (.slice Ao33 t1128.length co33) (.slice Ao34 t1131.length co34))))) (Kd.R_lt (ZQ (ZF3 HO1133 BK1134 (.int .i64 t1127) (.slice Ao33 t1128.length co33) (.slice Ao34 t1131.length co34))))) (below_size ZB)); have n6_ := Aside0.mk (blk_below (g := gb1113) (o := .cells #[.int .i64 a0_0, .slice A0_1 l0_1.length c0_1, .slice A0_2 l0_2.length c0_2] 24 (0, 0)) (by refine ZS ?_; refine blk_far ?_ NB1113_1134.out _; refine ZS ?_; refine blk_far ?_ NB1113_1134.out _; refine ZS ?_; refine blk_far ?_ NB1113_1134.out _; refine ZS ?_; exact BK1113.out) hb); have n7_ := Aside0.mk (blk_below (g := gb1134) (o := .cells #[.int .i64 t1127, .slice Ao33 t1128.length co33, .slice Ao34 t1131.length co34] 29 (0, 0)) (by refine ZS ?_; refine blk_put (cs := #[.int .i64 t1127, .slice Ao33 t1128.length co33, .slice none 0 0]) ?_ 2 _ rfl; refine ZS ?_; refine blk_put (cs := #[.int .i64 t1127, .slice none 0 0, .slice none 0 0]) ?_ 1 _ rfl; refine ZS ?_; refine blk_put (cs := #[.int .i64 0, .slice none 0 0, .slice none 0 0]) ?_ 0 _ rfl; refine ZS ?_; exact BK1134.out) hb); have n8_ := Aside0.mk (below_step ZB hb); clear HO1118; clear HO1121; clear HO1124; clear HO1130; clear HO1133; clear BK1113; clear BK1134; clear HB; have HO1118 := n0_; have HO1121 := n1_; have HO1124 := n2_; have HO1130 := n3_; have HO1133 := n4_; have HO1137 := n5_; have BK1113 := n6_; have BK1134 := n7_; have HB := n8_; clear n0_ n1_ n2_ n3_ n4_ n5_ n6_ n7_ n8_; (try clear hb); (try clear hb2); (try clear hk); (try clear hi); (try clear ho0); obtain ⟨hcz36_0, hcz36_1, hcz36_2, hfz36_0, hfz36_1, hfz36_2⟩ := ZD3 BK1134; obtain ⟨Ao37, co37, eo37⟩ := Kd.R_slice HO1137.out; subst eo37) | ((with_reducible refine gate_callee (f := 41) rfl ?_); refine goesL_ (some 39) rfl rfl Try.func41 (by kernel_rfl) rfl #[.agg #[.int .i64 t1127, .slice Ao33 t1128.length co33, .slice Ao34 t1131.length co34], .slice Ao37 t1135.length co37, .int .i64 a2] rfl ZA ?_; (with_reducible refine (impl_ValueBy.calls k t1127 _ _ t1128 _ _ t1131 _ _ t1135 a2 t1138 t1139 _ ?side1 ?side2 ?side3 ?side4 ?side5 ?side6 A16.out).mono ?_); (case side1 => repeat (first | exact (Kd.R_reads' HO1130.out).2.2 | (with_reducible refine Kd.C_alloc ?_ _) | (with_reducible refine Kd.C_drewN ?_ _) | (with_reducible refine Kd.C_drew ?_))); (case side2 => exact (Kd.R_reads' HO1130.out).2.1); (case side3 => repeat (first | exact (Kd.R_reads' HO1133.out).2.2 | (with_reducible refine Kd.C_alloc ?_ _) | (with_reducible refine Kd.C_drewN ?_ _) | (with_reducible refine Kd.C_drew ?_))); (case side4 => exact (Kd.R_reads' HO1133.out).2.1); (case side5 => repeat (first | exact (Kd.R_reads' HO1137.out).2.2 | (with_reducible refine Kd.C_alloc ?_ _) | (with_reducible refine Kd.C_drewN ?_ _) | (with_reducible refine Kd.C_drew ?_))); (case side6 => exact (Kd.R_reads' HO1137.out).2.1); rintro e w38 ⟨rfl, hb⟩; refine ⟨_, rfl, ?_⟩; have n0_ := Aside0.mk (Kd.R_below (ZR HO1118) hb); have n1_ := Aside0.mk (Kd.R_below (ZR HO1121) hb); have n2_ := Aside0.mk (Kd.R_below (ZR HO1124) hb); have n3_ := Aside0.mk (Kd.R_below (ZR HO1130) hb); have n4_ := Aside0.mk (Kd.R_below (ZR HO1133) hb); have n5_ := Aside0.mk (Kd.R_below (ZR HO1137) hb); have n6_ := ZL BK1113 hb; have n7_ := ZL BK1134 hb; have n8_ := Aside0.mk (below_step ZB hb); clear HO1118; clear HO1121; clear HO1124; clear HO1130; clear HO1133; clear HO1137; clear BK1113; clear BK1134; clear HB; have HO1118 := n0_; have HO1121 := n1_; have HO1124 := n2_; have HO1130 := n3_; have HO1133 := n4_; have HO1137 := n5_; have BK1113 := n6_; have BK1134 := n7_; have HB := n8_; clear n0_ n1_ n2_ n3_ n4_ n5_ n6_ n7_ n8_; (try clear hb); (try clear hb2); (try clear hk); (try clear hi)))
   (try simp only [Act.put, List.setIfInBounds_toArray, List.set_cons_zero, List.set_cons_succ])
   go_cut [49] (fun v49 wc => ∃ (kq : Nat) (x49_16 : Bool), v49 = .bool x49_16 ∧ Aside0 (laws_FnExactValueBy.j0 kq l1 t1135 x49_16 a0_0 l0_1 l0_2 t1127 t1128 t1131 = some r) ∧ Aside0 (kq ≤ k) ∧ Aside0 (Kd.R (Kd.int .i64) 2 wc w.heap.size (fun k_ => some k_ ≠ ((.slice Ao33 t1128.length co33) : Value).ownBlock ∧ some k_ ≠ ((.slice Ao34 t1131.length co34) : Value).ownBlock) (.slice Ao37 t1135.length co37) t1135) ∧ Aside0 (Kd.R (Kd.int .i64) 2 wc w.heap.size (fun k_ => some k_ ≠ ((.slice Ao37 t1135.length co37) : Value).ownBlock ∧ some k_ ≠ ((.slice Ao34 t1131.length co34) : Value).ownBlock) (.slice Ao33 t1128.length co33) t1128) ∧ Aside0 (Kd.R (Kd.int .i64) 2 wc w.heap.size (fun k_ => some k_ ≠ ((.slice Ao37 t1135.length co37) : Value).ownBlock ∧ some k_ ≠ ((.slice Ao33 t1128.length co33) : Value).ownBlock) (.slice Ao34 t1131.length co34) t1131) ∧ Aside0 (wc.heap[gb1113]? = some (.cells #[.int .i64 a0_0, (.slice A0_1 l0_1.length c0_1), (.slice A0_2 l0_2.length c0_2)] 24 (0, 0))) ∧ Aside0 (wc.heap[gb1134]? = some (.cells #[.int .i64 t1127, (.slice Ao33 t1128.length co33), (.slice Ao34 t1131.length co34)] 29 (0, 0))) ∧ Aside0 (Below w.heap.size w wc))
   case first =>
    have H := HC17.out
    clear HC17
    by_cases c39 : t1138 = t1125
    ·rw [if_pos c39] at H
     have c39b0 : (t1138 == t1125) = true := beq_iff_eq.mpr c39
     have c39b1 : (t1138 != t1125) = false := bne_eq_false_iff_eq.mpr c39
     clear c39
     (first | rw [c39b0] | (simp only [i64_w, i32_w]; rw [c39b0]) | skip)
     have H' := Aside0.mk H
     clear H
     go_wp2
     go_meet
     case rel => exact ⟨_, ((t1139 != t1126)), (by first | rfl | (simp; done) | (simp [*]; done)), H', ⟨by first | omega | exact Nat.le_refl _⟩, ⟨by refine ZQ ?_; exact Kd.R_mono HO1137.out (fun _ hk => (And.intro (hk.1.2) (hk.2)))⟩, ⟨by refine ZQ ?_; exact Kd.R_mono HO1130.out (fun _ hk => (And.intro (hk.2) (hk.1.1.1.1)))⟩, ⟨by refine ZQ ?_; exact Kd.R_mono HO1133.out (fun _ hk => (And.intro (hk.2) (hk.1.1.1.1)))⟩, ⟨ZK BK1113⟩, ⟨ZK BK1134⟩, ⟨ZB⟩⟩
    ·rw [if_neg c39] at H
     have c39b0 : (t1138 == t1125) = false := beq_eq_false_iff_ne.mpr c39
     have c39b1 : (t1138 != t1125) = true := bne_iff_ne.mpr c39
     (first | rw [c39b0] | (simp only [i64_w, i32_w]; rw [c39b0]) | skip)
     have H' := Aside0.mk H
     clear H
     go_wp2
     go_meet
     case rel => exact ⟨_, (true), (by first | rfl | (simp; done) | (simp [*]; done)), H', ⟨by first | omega | exact Nat.le_refl _⟩, ⟨by refine ZQ ?_; exact Kd.R_mono HO1137.out (fun _ hk => (And.intro (hk.1.2) (hk.2)))⟩, ⟨by refine ZQ ?_; exact Kd.R_mono HO1130.out (fun _ hk => (And.intro (hk.2) (hk.1.1.1.1)))⟩, ⟨by refine ZQ ?_; exact Kd.R_mono HO1133.out (fun _ hk => (And.intro (hk.2) (hk.1.1.1.1)))⟩, ⟨ZK BK1113⟩, ⟨ZK BK1134⟩, ⟨ZB⟩⟩
   case rest =>
    clear HC17
    try clear c1
    try clear c2
    try clear p2
    try clear c3
    try clear c4
    try clear c4b0
    try clear c4b1
    try clear c7
    try clear c7b0
    try clear c10
    try clear c14
    try clear c16
    try clear c27
    try clear c31
    try clear c39
    try clear c39b0
    try clear c39b1
    try clear hcz19_0
    try clear hcz19_1
    try clear hcz19_2
    try clear hcz21_0
    try clear hcz21_1
    try clear hcz21_2
    try clear hcz28_0
    try clear hcz28_1
    try clear hcz28_2
    try clear hcz32_0
    try clear hcz32_1
    try clear hcz32_2
    try clear hcz36_0
    try clear hcz36_1
    try clear hcz36_2
    try clear hcz9_0
    try clear hcz9_1
    try clear hcz9_2
    try clear hfz19_0
    try clear hfz19_1
    try clear hfz19_2
    try clear hfz21_0
    try clear hfz21_1
    try clear hfz21_2
    try clear hfz28_0
    try clear hfz28_1
    try clear hfz28_2
    try clear hfz32_0
    try clear hfz32_1
    try clear hfz32_2
    try clear hfz36_0
    try clear hfz36_1
    try clear hfz36_2
    try clear hfz9_0
    try clear hfz9_1
    try clear hfz9_2
    obtain ⟨kq, x49_16, rfl, HA, HJ16, HO_11, HO_1135001, HO_1135002, BK1113, BK1134, HB⟩ := hcut
    cases kq with
    | zero => exact absurd HA.out (by simp [laws_FnExactValueBy.j0])
    | succ kj16 =>
     have H := HA.out
     clear HA
     simp only [laws_FnExactValueBy.j0] at H
     by_cases c40 : x49_16 = true
     ·subst c40
      have H1 : (some false) = some r := by rw [if_pos rfl] at H; exact H
      clear H
      have H := H1
      clear H1
      exact absurd (H.trans (congrArg some hT.out)) (by simp)
     ·replace c40 := Bool.eq_false_iff.mpr c40
      subst c40
      have H1 : ((laws_toJacobi.f kj16 a0_0 l0_1 l0_2).bind fun bt1140 => ((laws_eqJacobi.f kj16 t1127 t1128 t1131 bt1140.1 bt1140.2.1 bt1140.2.2).bind fun t1147 => (if t1147 = true then ((laws_toInt64S.f kj16 l1).bind fun t1148 => ((laws_eqInt64S.f kj16 t1135 t1148).bind fun t1151 => (if t1151 = true then (some true) else (some false)))) else (some false)))) = some r := by rw [if_neg (show ¬ (false = true) by decide)] at H; exact H
      clear H
      have H := H1
      clear H1
      replace H := Option.bind_eq_some_iff.mp H
      obtain ⟨⟨t1140, t1141, t1144⟩, A410, H⟩ := H
      replace H : ((laws_eqJacobi.f kj16 t1127 t1128 t1131 t1140 t1141 t1144).bind fun t1147 => (if t1147 = true then ((laws_toInt64S.f kj16 l1).bind fun t1148 => ((laws_eqInt64S.f kj16 t1135 t1148).bind fun t1151 => (if t1151 = true then (some true) else (some false)))) else (some false))) = some r := H
      have A41 := Aside0.mk A410
      clear A410
      replace H := Option.bind_eq_some_iff.mp H
      obtain ⟨t1147, A420, H⟩ := H
      replace H : (if t1147 = true then ((laws_toInt64S.f kj16 l1).bind fun t1148 => ((laws_eqInt64S.f kj16 t1135 t1148).bind fun t1151 => (if t1151 = true then (some true) else (some false)))) else (some false)) = some r := H
      have A42 := Aside0.mk A420
      clear A420
      by_cases c43 : t1147 = true
      ·subst c43
       have H1 : ((laws_toInt64S.f kj16 l1).bind fun t1148 => ((laws_eqInt64S.f kj16 t1135 t1148).bind fun t1151 => (if t1151 = true then (some true) else (some false)))) = some r := by rw [if_pos rfl] at H; exact H
       clear H
       have H := H1
       clear H1
       replace H := Option.bind_eq_some_iff.mp H
       obtain ⟨t1148, A440, H⟩ := H
       replace H : ((laws_eqInt64S.f kj16 t1135 t1148).bind fun t1151 => (if t1151 = true then (some true) else (some false))) = some r := H
       have A44 := Aside0.mk A440
       clear A440
       replace H := Option.bind_eq_some_iff.mp H
       obtain ⟨t1151, A450, H⟩ := H
       replace H : (if t1151 = true then (some true) else (some false)) = some r := H
       have A45 := Aside0.mk A450
       clear A450
       by_cases c46 : t1151 = true
       ·subst c46
        have H1 : (some true) = some r := by rw [if_pos rfl] at H; exact H
        clear H
        have H := H1
        clear H1
        obtain rfl := Option.some.inj H
        try go_wp2
        have n0_ := Aside0.mk (Kd.R_drew HO_11.out)
        have n1_ := Aside0.mk (Kd.R_drew HO_1135001.out)
        have n2_ := Aside0.mk (Kd.R_drew HO_1135002.out)
        have n3_ := Aside0.mk (blk_drew BK1113.out)
        have n4_ := Aside0.mk (blk_drew BK1134.out)
        have n5_ := Aside0.mk (below_drew1 HB.out)
        clear HO_11
        clear HO_1135001
        clear HO_1135002
        clear BK1113
        clear BK1134
        clear HB
        have HO_11 := n0_
        have HO_1135001 := n1_
        have HO_1135002 := n2_
        have BK1113 := n3_
        have BK1134 := n4_
        have HB := n5_
        clear n0_ n1_ n2_ n3_ n4_ n5_
        refine start_ (n := 5) (S := fun w' => w'.cell? ⟨gb1134, 0, none⟩ = some (.int .i64 t1127) ∧ w'.cell? ⟨gb1134, 1, none⟩ = some (.slice Ao33 t1128.length co33) ∧ w'.cell? ⟨gb1134, 2, none⟩ = some (.slice Ao34 t1131.length co34) ∧ w'.cell? ⟨gb1113, 0, none⟩ = some (.int .i64 a0_0) ∧ w'.cell? ⟨gb1113, 1, none⟩ = some (.slice A0_1 l0_1.length c0_1) ∧ w'.cell? ⟨gb1113, 2, none⟩ = some (.slice A0_2 l0_2.length c0_2)) (ds := []) #[false, false, false, false, false] (by kernel_rfl) rfl rfl ⟨(blk_cell BK1134.out 0).trans rfl, (blk_cell BK1134.out 1).trans rfl, (blk_cell BK1134.out 2).trans rfl, (blk_cell BK1113.out 0).trans rfl, (blk_cell BK1113.out 1).trans rfl, (blk_cell BK1113.out 2).trans rfl⟩ (fun hHeld => ?_)
        generalize wc.drew = w47 at HO_11 HO_1135001 HO_1135002 BK1113 BK1134 HB hHeld ⊢
        refine Zt6 0 (some 50) hHeld (h := ?_)
        refine Zt6 1 (some 51) hHeld (h := ?_)
        refine one_ (i := 2) (N := some 52) #[true, true, true, false, false] rfl rfl (by kernel_rfl) (by decide) (fun K hK => ?_)
        refine goes_ Try.func16 (by kernel_rfl) rfl #[.agg #[.int .i64 a0_0, .slice A0_1 l0_1.length c0_1, .slice A0_2 l0_2.length c0_2]] (by rfl) rfl rfl ZA ?_
        with_reducible refine (laws_toJacobi.calls kj16 a0_0 _ _ l0_1 _ _ l0_2 t1140 t1141 t1144 _ ?side1 ?side2 ?side3 ?side4 A41.out).mono ?_
        (case side1 => exact ZC HR0_1)
        (case side2 => exact HC0_1.out)
        (case side3 => exact ZC HR0_2)
        (case side4 => exact HC0_2.out)
        rintro e w48 ⟨v1142, v1145, rfl, ho0, ho1, hb⟩
        refine ⟨_, rfl, ?_⟩
        have n0_ := Aside0.mk (Kd.R_mono (Kd.R_told (Kd.R_told (Kd.R_old (ZR HO_11) hb) (Kd.R_base ho0)) (Kd.R_base ho1)) (fun _ h_ => h_.1))
        have n1_ := Aside0.mk (Kd.R_mono (Kd.R_told (Kd.R_told (Kd.R_old (ZR HO_1135001) hb) (Kd.R_base ho0)) (Kd.R_base ho1)) (fun _ h_ => h_.1))
        have n2_ := Aside0.mk (Kd.R_mono (Kd.R_told (Kd.R_told (Kd.R_old (ZR HO_1135002) hb) (Kd.R_base ho0)) (Kd.R_base ho1)) (fun _ h_ => h_.1))
        have n3_ := Aside0.mk (Kd.R_lower (Kd.R_new' (Kd.R_new' (Kd.R_new' ho0 (Kd.R_lt (ZR HO_11))) (Kd.R_lt (ZR HO_1135001))) (Kd.R_lt (ZR HO_1135002))) (below_size ZB))
        have n4_ := Aside0.mk (Kd.R_lower (Kd.R_new' (Kd.R_new' (Kd.R_new' ho1 (Kd.R_lt (ZR HO_11))) (Kd.R_lt (ZR HO_1135001))) (Kd.R_lt (ZR HO_1135002))) (below_size ZB))
        have n5_ := ZL BK1113 hb
        have n6_ := ZL BK1134 hb
        have n7_ := Aside0.mk (below_step ZB hb)
        clear HO_11
        clear HO_1135001
        clear HO_1135002
        clear BK1113
        clear BK1134
        clear HB
        have HO_11 := n0_
        have HO_1135001 := n1_
        have HO_1135002 := n2_
        have HO1143 := n3_
        have HO1146 := n4_
        have BK1113 := n5_
        have BK1134 := n6_
        have HB := n7_
        clear n0_ n1_ n2_ n3_ n4_ n5_ n6_ n7_
        (try clear hb)
        (try clear hb2)
        (try clear hk)
        (try clear hi)
        (try clear ho0)
        (try clear ho1)
        obtain ⟨Ao49, co49, eo49⟩ := Kd.R_slice HO1143.out
        (first | subst eo49 | (injection eo49 with f1_ f2_ f3_; have f4_ := f1_.symm; have f5_ := f3_.symm; clear f1_ f2_ f3_; subst f4_; subst f5_))
        obtain ⟨Ao50, co50, eo50⟩ := Kd.R_slice HO1146.out
        (first | subst eo50 | (injection eo50 with f1_ f2_ f3_; have f4_ := f1_.symm; have f5_ := f3_.symm; clear f1_ f2_ f3_; subst f4_; subst f5_))
        refine hK.out _ _ ⟨(blk_cell BK1134.out 0).trans rfl, (blk_cell BK1134.out 1).trans rfl, (blk_cell BK1134.out 2).trans rfl, (blk_cell BK1113.out 0).trans rfl, (blk_cell BK1113.out 1).trans rfl, (blk_cell BK1113.out 2).trans rfl⟩ (fun hHeld => ?_)
        clear hK K
        refine norm_ (a' := ?_) ?_ ?_
        rotate_left
        ·show Act.put _ (some 52) _ = _
         simp only [Act.put, List.setIfInBounds_toArray, List.set_cons_zero, List.set_cons_succ, i64_w, i32_w]
         rfl
        refine one_ (i := 3) (N := some 53) #[true, true, true, true, false] rfl rfl (by kernel_rfl) (by decide) (fun K hK => ?_)
        refine goes_ Try.func19 (by kernel_rfl) rfl #[.agg #[.int .i64 t1127, .slice Ao33 t1128.length co33, .slice Ao34 t1131.length co34], .agg #[.int .i64 t1140, .slice Ao49 t1141.length co49, .slice Ao50 t1144.length co50]] (by rfl) rfl rfl ZA ?_
        with_reducible refine (laws_eqJacobi.calls kj16 t1127 _ _ t1128 _ _ t1131 t1140 _ _ t1141 _ _ t1144 true _ ?side1 ?side2 ?side3 ?side4 ?side5 ?side6 ?side7 ?side8 A42.out).mono ?_
        (case side1 => repeat (first | exact (Kd.R_reads' HO_1135001.out).2.2 | (with_reducible refine Kd.C_alloc ?_ _) | (with_reducible refine Kd.C_drewN ?_ _) | (with_reducible refine Kd.C_drew ?_)))
        (case side2 => exact (Kd.R_reads' HO_1135001.out).2.1)
        (case side3 => repeat (first | exact (Kd.R_reads' HO_1135002.out).2.2 | (with_reducible refine Kd.C_alloc ?_ _) | (with_reducible refine Kd.C_drewN ?_ _) | (with_reducible refine Kd.C_drew ?_)))
        (case side4 => exact (Kd.R_reads' HO_1135002.out).2.1)
        (case side5 => repeat (first | exact (Kd.R_reads' HO1143.out).2.2 | (with_reducible refine Kd.C_alloc ?_ _) | (with_reducible refine Kd.C_drewN ?_ _) | (with_reducible refine Kd.C_drew ?_)))
        (case side6 => exact (Kd.R_reads' HO1143.out).2.1)
        (case side7 => repeat (first | exact (Kd.R_reads' HO1146.out).2.2 | (with_reducible refine Kd.C_alloc ?_ _) | (with_reducible refine Kd.C_drewN ?_ _) | (with_reducible refine Kd.C_drew ?_)))
        (case side8 => exact (Kd.R_reads' HO1146.out).2.1)
        rintro e w51 ⟨rfl, hb⟩
        refine ⟨_, rfl, ?_⟩
        have n0_ := Aside0.mk (Kd.R_below (ZR HO_11) hb)
        have n1_ := Aside0.mk (Kd.R_below (ZR HO_1135001) hb)
        have n2_ := Aside0.mk (Kd.R_below (ZR HO_1135002) hb)
        have n3_ := Aside0.mk (Kd.R_below (ZR HO1143) hb)
        have n4_ := Aside0.mk (Kd.R_below (ZR HO1146) hb)
        have n5_ := ZL BK1113 hb
        have n6_ := ZL BK1134 hb
        have n7_ := Aside0.mk (below_step ZB hb)
        clear HO_11
        clear HO_1135001
        clear HO_1135002
        clear HO1143
        clear HO1146
        clear BK1113
        clear BK1134
        clear HB
        have HO_11 := n0_
        have HO_1135001 := n1_
        have HO_1135002 := n2_
        have HO1143 := n3_
        have HO1146 := n4_
        have BK1113 := n5_
        have BK1134 := n6_
        have HB := n7_
        clear n0_ n1_ n2_ n3_ n4_ n5_ n6_ n7_
        (try clear hb)
        (try clear hb2)
        (try clear hk)
        (try clear hi)
        refine hK.out _ _ ⟨(blk_cell BK1134.out 0).trans rfl, (blk_cell BK1134.out 1).trans rfl, (blk_cell BK1134.out 2).trans rfl, (blk_cell BK1113.out 0).trans rfl, (blk_cell BK1113.out 1).trans rfl, (blk_cell BK1113.out 2).trans rfl⟩ (fun hHeld => ?_)
        clear hK K
        refine norm_ (a' := ?_) ?_ ?_
        rotate_left
        ·show Act.put _ (some 53) _ = _
         simp only [Act.put, List.setIfInBounds_toArray, List.set_cons_zero, List.set_cons_succ, i64_w, i32_w]
         rfl
        refine Zp 4 (some 54) (h := ?_)
        refine done_ (by kernel_rfl) ?_
        try go_wp2_with (first | ((with_reducible refine gate_callee (f := 27) rfl ?_); refine goesL_ (some 57) rfl rfl Try.func27 (by kernel_rfl) rfl #[.slice A1 l1.length c1] rfl ZA ?_; (with_reducible refine (laws_toInt64S.calls kj16 _ _ l1 t1148 _ ?side1 ?side2 A44.out).mono ?_); (case side1 => exact ZC HR1); (case side2 => exact HC1.out); rintro e w52 ⟨v1149, rfl, ho0, hb⟩; refine ⟨_, rfl, ?_⟩; have n0_ := Aside0.mk (Kd.R_elder' (ZR HO_11) (Kd.R_base ho0) hb); have n1_ := Aside0.mk (Kd.R_elder' (ZR HO_1135001) (Kd.R_base ho0) hb); have n2_ := Aside0.mk (Kd.R_elder' (ZR HO_1135002) (Kd.R_base ho0) hb); have n3_ := Aside0.mk (Kd.R_elder' (ZR HO1143) (Kd.R_base ho0) hb); have n4_ := Aside0.mk (Kd.R_elder' (ZR HO1146) (Kd.R_base ho0) hb); have n5_ := Aside0.mk (Kd.R_lower (Kd.R_new' (Kd.R_new' (Kd.R_new' (Kd.R_new' (Kd.R_new' ho0 (Kd.R_lt (ZR HO_11))) (Kd.R_lt (ZR HO_1135001))) (Kd.R_lt (ZR HO_1135002))) (Kd.R_lt (ZR HO1143))) (Kd.R_lt (ZR HO1146))) (below_size ZB)); have n6_ := ZL BK1113 hb; have n7_ := ZL BK1134 hb; have n8_ := Aside0.mk (below_step ZB hb); clear HO_11; clear HO_1135001; clear HO_1135002; clear HO1143; clear HO1146; clear BK1113; clear BK1134; clear HB; have HO_11 := n0_; have HO_1135001 := n1_; have HO_1135002 := n2_; have HO1143 := n3_; have HO1146 := n4_; have HO1150 := n5_; have BK1113 := n6_; have BK1134 := n7_; have HB := n8_; clear n0_ n1_ n2_ n3_ n4_ n5_ n6_ n7_ n8_; (try clear hb); (try clear hb2); (try clear hk); (try clear hi); (try clear ho0); obtain ⟨Ao53, co53, eo53⟩ := Kd.R_slice HO1150.out; subst eo53) | ((with_reducible refine gate_callee (f := 29) rfl ?_); refine goesL_ (some 58) rfl rfl Try.func29 (by kernel_rfl) rfl #[.slice Ao37 t1135.length co37, .slice Ao53 t1148.length co53] rfl ZA ?_; (with_reducible refine (laws_eqInt64S.calls kj16 _ _ t1135 _ _ t1148 true _ ?side1 ?side2 ?side3 ?side4 A45.out).mono ?_); (case side1 => repeat (first | exact (Kd.R_reads' HO_11.out).2.2 | (with_reducible refine Kd.C_alloc ?_ _) | (with_reducible refine Kd.C_drewN ?_ _) | (with_reducible refine Kd.C_drew ?_))); (case side2 => exact (Kd.R_reads' HO_11.out).2.1); (case side3 => repeat (first | exact (Kd.R_reads' HO1150.out).2.2 | (with_reducible refine Kd.C_alloc ?_ _) | (with_reducible refine Kd.C_drewN ?_ _) | (with_reducible refine Kd.C_drew ?_))); (case side4 => exact (Kd.R_reads' HO1150.out).2.1); rintro e w' ⟨rfl, ⟨nd, rfl⟩⟩; refine ⟨_, rfl, ?_⟩))
        go_ret
        exact ⟨by first | rfl | (simp [errW_none, errW_some] <;> rfl) | (simp [*, errW_none, errW_some] <;> rfl), ZB⟩
       ·replace c46 := Bool.eq_false_iff.mpr c46
        subst c46
        have H1 : (some false) = some r := by rw [if_neg (show ¬ (false = true) by decide)] at H; exact H
        clear H
        have H := H1
        clear H1
        exact absurd (H.trans (congrArg some hT.out)) (by simp)
      ·replace c43 := Bool.eq_false_iff.mpr c43
       subst c43
       have H1 : (some false) = some r := by rw [if_neg (show ¬ (false = true) by decide)] at H; exact H
       clear H
       have H := H1
       clear H1
       exact absurd (H.trans (congrArg some hT.out)) (by simp)

end Go.Proofs.Ytaclapojgdekpaa.X
