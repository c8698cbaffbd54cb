/- Contracts of functions that the law reaches, printed by a program of this session; Lean checks them. -/
import Derived.Test.YtaclapojgdekpaaCExpandProductX0
import Derived.Test.YtaclapojgdekpaaCExpandProductX1
import Derived.Test.YtaclapojgdekpaaCExpandProductX25
import Derived.Test.YtaclapojgdekpaaCExpandProductX26
import Derived.Test.YtaclapojgdekpaaCExpandProductX5
import Derived.Test.YtaclapojgdekpaaCExpandProductX7
import Derived.Test.YtaclapojgdekpaaCExpandProductXZ
namespace Go.Proofs.Ytaclapojgdekpaa.X
open Go.RowKit Go.Proofs.YtaclapojgdekpaaW.PrintWords Go.Proofs.YtaclapojgdekpaaW.PrintLast Go.Proofs.YtaclapojgdekpaaW.PrintMore
attribute [local go_sem] max2_int min2_int max_two min_two max_three min_three max_four min_four   -- for this text's walks alone
set_option linter.unusedVariables false
set_option linter.unusedSimpArgs false

/-! ### laws_FnExactExpandProduct: function 8 -/
mutual
def laws_FnExactExpandProduct.j0 : Nat → Int → Int → List Int → Int → List Int → Int → Bool → Int → List Int → List Int → Int → List Int → List Int → Option (Bool)
 | 0, _, _, _, _, _, _, _, _, _, _, _, _, _ => none
 | k + 1, x1, x2, x8, x9, x11, x12, x48, x854000, x854001, x854002, x874000, x874001, x874002 => if x48 = true then (some false) else ((laws_toJacobi.f k x854000 x854001 x854002).bind fun bt879 => ((laws_eqJacobi.f k x874000 x874001 x874002 bt879.1 bt879.2.1 bt879.2.2).bind fun t886 => (if t886 = true then ((laws_markJacobi.f k x874000 x874001 x874002 1).bind fun bt887 => (if bt887.1 < 0 then (laws_FnExactExpandProduct.j1 k x1 x2 x8 x9 x11 true x854000 x854001 x854002) else ((laws_eqInt64S.f k x11 x8).bind fun t890 => (if t890 = true then (laws_FnExactExpandProduct.j1 k x1 x2 x8 x9 x11 (x12 != x9) x854000 x854001 x854002) else (laws_FnExactExpandProduct.j1 k x1 x2 x8 x9 x11 true x854000 x854001 x854002))))) else (some false))))
def laws_FnExactExpandProduct.j1 : Nat → Int → Int → List Int → Int → List Int → Bool → Int → List Int → List Int → Option (Bool)
 | 0, _, _, _, _, _, _, _, _, _ => none
 | k + 1, x1, x2, x8, x9, x11, x69, x854000, x854001, x854002 => if x69 = true then (some false) else ((laws_markInt64S.f k x11 1).bind fun bt891 => ((laws_heldInt64S.f k bt891.2 1).bind fun t893 => (if t893 < 0 then (some false) else (if t893 = bt891.1 then ((laws_toJacobi.f k x854000 x854001 x854002).bind fun bt894 => ((impl_ExpandProduct.f k bt894.1 bt894.2.1 bt894.2.2 x1 x2).bind fun bt901 => ((laws_eqInt64S.f k bt901.1 x8).bind fun t905 => (if t905 = true then (laws_FnExactExpandProduct.j2 k bt891.2 bt891.1 (bt901.2 != x9)) else (laws_FnExactExpandProduct.j2 k bt891.2 bt891.1 true))))) else (some false)))))
def laws_FnExactExpandProduct.j2 : Nat → List Int → Int → Bool → Option (Bool)
 | 0, _, _, _ => none
 | k + 1, x11, x14, x97 => if x97 = true then (some false) else ((laws_heldInt64S.f k x11 1).bind fun t906 => (if t906 < 0 then (some false) else (if t906 = x14 then (some true) else (some false))))
end
def laws_FnExactExpandProduct.f (k : Nat) (a0_0 : Int) (l0_1 : List Int) (l0_2 : List Int) (a1 : Int) (a2 : Int) : Option (Bool) := (laws_szJacobi.f a0_0 l0_1 l0_2 1048576).bind fun t854 => (if t854 < 0 then (some true) else ((laws_toJacobi.f k a0_0 l0_1 l0_2).bind fun bt855 => ((spec_ExpandProduct.f k bt855.1 bt855.2.1 bt855.2.2 a1 a2).bind fun bt862 => ((laws_toJacobi.f k a0_0 l0_1 l0_2).bind fun bt866 => ((impl_ExpandProduct.f k bt866.1 bt866.2.1 bt866.2.2 a1 a2).bind fun bt874 => ((laws_eqInt64S.f k bt874.1 bt862.1).bind fun t878 => (if t878 = true then (laws_FnExactExpandProduct.j0 k a1 a2 bt862.1 bt862.2 bt874.1 bt874.2 (bt874.2 != bt862.2) a0_0 l0_1 l0_2 bt866.1 bt866.2.1 bt866.2.2) else (laws_FnExactExpandProduct.j0 k a1 a2 bt862.1 bt862.2 bt874.1 bt874.2 true a0_0 l0_1 l0_2 bt866.1 bt866.2.1 bt866.2.2))))))))
theorem laws_FnExactExpandProduct.mono_l : ∀ k, (∀ y0 y1 y2 y3 y4 y5 y6 y7 y8 y9 y10 y11 y12, LeO (laws_FnExactExpandProduct.j0 k y0 y1 y2 y3 y4 y5 y6 y7 y8 y9 y10 y11 y12) (laws_FnExactExpandProduct.j0 (k + 1) y0 y1 y2 y3 y4 y5 y6 y7 y8 y9 y10 y11 y12)) ∧ (∀ y0 y1 y2 y3 y4 y5 y6 y7 y8, LeO (laws_FnExactExpandProduct.j1 k y0 y1 y2 y3 y4 y5 y6 y7 y8) (laws_FnExactExpandProduct.j1 (k + 1) y0 y1 y2 y3 y4 y5 y6 y7 y8)) ∧ (∀ y0 y1 y2, LeO (laws_FnExactExpandProduct.j2 k y0 y1 y2) (laws_FnExactExpandProduct.j2 (k + 1) y0 y1 y2))
 | 0 => ⟨fun _ _ _ _ _ _ _ _ _ _ _ _ _ r h => by simp [laws_FnExactExpandProduct.j0] at h, fun _ _ _ _ _ _ _ _ _ r h => by simp [laws_FnExactExpandProduct.j1] at h, fun _ _ _ r h => by simp [laws_FnExactExpandProduct.j2] at h⟩
 | k + 1 => by
  obtain ⟨ih0, ih1, ih2⟩ := laws_FnExactExpandProduct.mono_l k
  refine ⟨?_, ?_, ?_⟩
  ·intro y0 y1 y2 y3 y4 y5 y6 y7 y8 y9 y10 y11 y12
   unfold laws_FnExactExpandProduct.j0
   repeat' first
   | (with_reducible exact ih0 _ _ _ _ _ _ _ _ _ _ _ _ _)
   | (with_reducible exact ih1 _ _ _ _ _ _ _ _ _)
   | (with_reducible exact ih2 _ _ _)
   | (with_reducible exact impl_ExpandProduct.mono _ _ _ _ _ _)
   | (with_reducible exact laws_eqInt64S.mono _ _ _)
   | (with_reducible exact laws_eqJacobi.mono _ _ _ _ _ _ _)
   | (with_reducible exact laws_heldInt64S.mono _ _ _)
   | (with_reducible exact laws_markInt64S.mono _ _ _)
   | (with_reducible exact laws_markJacobi.mono _ _ _ _ _)
   | (with_reducible exact laws_toJacobi.mono _ _ _ _)
   | (with_reducible exact spec_ExpandProduct.mono _ _ _ _ _ _)
   | (with_reducible exact LeO.refl _)
   | (with_reducible exact LeO.none _)
   | (with_reducible refine LeO.ite ?_ ?_)
   | (with_reducible refine LeO.bind ?_ (fun _ => ?_))
   | exact ih0 _ _ _ _ _ _ _ _ _ _ _ _ _
   | exact ih1 _ _ _ _ _ _ _ _ _
   | exact ih2 _ _ _
   | exact impl_ExpandProduct.mono _ _ _ _ _ _
   | exact laws_eqInt64S.mono _ _ _
   | exact laws_eqJacobi.mono _ _ _ _ _ _ _
   | exact laws_heldInt64S.mono _ _ _
   | exact laws_markInt64S.mono _ _ _
   | exact laws_markJacobi.mono _ _ _ _ _
   | exact laws_toJacobi.mono _ _ _ _
   | exact spec_ExpandProduct.mono _ _ _ _ _ _
   | exact LeO.none _
   | refine LeO.ite ?_ ?_
   | refine LeO.bind ?_ (fun _ => ?_)
  ·intro y0 y1 y2 y3 y4 y5 y6 y7 y8
   unfold laws_FnExactExpandProduct.j1
   repeat' first
   | (with_reducible exact ih0 _ _ _ _ _ _ _ _ _ _ _ _ _)
   | (with_reducible exact ih1 _ _ _ _ _ _ _ _ _)
   | (with_reducible exact ih2 _ _ _)
   | (with_reducible exact impl_ExpandProduct.mono _ _ _ _ _ _)
   | (with_reducible exact laws_eqInt64S.mono _ _ _)
   | (with_reducible exact laws_eqJacobi.mono _ _ _ _ _ _ _)
   | (with_reducible exact laws_heldInt64S.mono _ _ _)
   | (with_reducible exact laws_markInt64S.mono _ _ _)
   | (with_reducible exact laws_markJacobi.mono _ _ _ _ _)
   | (with_reducible exact laws_toJacobi.mono _ _ _ _)
   | (with_reducible exact spec_ExpandProduct.mono _ _ _ _ _ _)
   | (with_reducible exact LeO.refl _)
   | (with_reducible exact LeO.none _)
   | (with_reducible refine LeO.ite ?_ ?_)
   | (with_reducible refine LeO.bind ?_ (fun _ => ?_))
   | exact ih0 _ _ _ _ _ _ _ _ _ _ _ _ _
   | exact ih1 _ _ _ _ _ _ _ _ _
   | exact ih2 _ _ _
   | exact impl_ExpandProduct.mono _ _ _ _ _ _
   | exact laws_eqInt64S.mono _ _ _
   | exact laws_eqJacobi.mono _ _ _ _ _ _ _
   | exact laws_heldInt64S.mono _ _ _
   | exact laws_markInt64S.mono _ _ _
   | exact laws_markJacobi.mono _ _ _ _ _
   | exact laws_toJacobi.mono _ _ _ _
   | exact spec_ExpandProduct.mono _ _ _ _ _ _
   | exact LeO.none _
   | refine LeO.ite ?_ ?_
   | refine LeO.bind ?_ (fun _ => ?_)
  ·intro y0 y1 y2
   unfold laws_FnExactExpandProduct.j2
   repeat' first
   | (with_reducible exact ih0 _ _ _ _ _ _ _ _ _ _ _ _ _)
   | (with_reducible exact ih1 _ _ _ _ _ _ _ _ _)
   | (with_reducible exact ih2 _ _ _)
   | (with_reducible exact impl_ExpandProduct.mono _ _ _ _ _ _)
   | (with_reducible exact laws_eqInt64S.mono _ _ _)
   | (with_reducible exact laws_eqJacobi.mono _ _ _ _ _ _ _)
   | (with_reducible exact laws_heldInt64S.mono _ _ _)
   | (with_reducible exact laws_markInt64S.mono _ _ _)
   | (with_reducible exact laws_markJacobi.mono _ _ _ _ _)
   | (with_reducible exact laws_toJacobi.mono _ _ _ _)
   | (with_reducible exact spec_ExpandProduct.mono _ _ _ _ _ _)
   | (with_reducible exact LeO.refl _)
   | (with_reducible exact LeO.none _)
   | (with_reducible refine LeO.ite ?_ ?_)
   | (with_reducible refine LeO.bind ?_ (fun _ => ?_))
   | exact ih0 _ _ _ _ _ _ _ _ _ _ _ _ _
   | exact ih1 _ _ _ _ _ _ _ _ _
   | exact ih2 _ _ _
   | exact impl_ExpandProduct.mono _ _ _ _ _ _
   | exact laws_eqInt64S.mono _ _ _
   | exact laws_eqJacobi.mono _ _ _ _ _ _ _
   | exact laws_heldInt64S.mono _ _ _
   | exact laws_markInt64S.mono _ _ _
   | exact laws_markJacobi.mono _ _ _ _ _
   | exact laws_toJacobi.mono _ _ _ _
   | exact spec_ExpandProduct.mono _ _ _ _ _ _
   | exact LeO.none _
   | refine LeO.ite ?_ ?_
   | refine LeO.bind ?_ (fun _ => ?_)
theorem laws_FnExactExpandProduct.mono : ∀ a0 a1 a2 a3 a4 k, LeO (laws_FnExactExpandProduct.f k a0 a1 a2 a3 a4) (laws_FnExactExpandProduct.f (k + 1) a0 a1 a2 a3 a4) := by
 intro a0 a1 a2 a3 a4 k
 obtain ⟨ih0, ih1, ih2⟩ := laws_FnExactExpandProduct.mono_l k
 unfold laws_FnExactExpandProduct.f
 repeat' first
   | (with_reducible exact ih0 _ _ _ _ _ _ _ _ _ _ _ _ _)
   | (with_reducible exact ih1 _ _ _ _ _ _ _ _ _)
   | (with_reducible exact ih2 _ _ _)
   | (with_reducible exact impl_ExpandProduct.mono _ _ _ _ _ _)
   | (with_reducible exact laws_eqInt64S.mono _ _ _)
   | (with_reducible exact laws_eqJacobi.mono _ _ _ _ _ _ _)
   | (with_reducible exact laws_heldInt64S.mono _ _ _)
   | (with_reducible exact laws_markInt64S.mono _ _ _)
   | (with_reducible exact laws_markJacobi.mono _ _ _ _ _)
   | (with_reducible exact laws_toJacobi.mono _ _ _ _)
   | (with_reducible exact spec_ExpandProduct.mono _ _ _ _ _ _)
   | (with_reducible exact LeO.refl _)
   | (with_reducible exact LeO.none _)
   | (with_reducible refine LeO.ite ?_ ?_)
   | (with_reducible refine LeO.bind ?_ (fun _ => ?_))
   | exact ih0 _ _ _ _ _ _ _ _ _ _ _ _ _
   | exact ih1 _ _ _ _ _ _ _ _ _
   | exact ih2 _ _ _
   | exact impl_ExpandProduct.mono _ _ _ _ _ _
   | exact laws_eqInt64S.mono _ _ _
   | exact laws_eqJacobi.mono _ _ _ _ _ _ _
   | exact laws_heldInt64S.mono _ _ _
   | exact laws_markInt64S.mono _ _ _
   | exact laws_markJacobi.mono _ _ _ _ _
   | exact laws_toJacobi.mono _ _ _ _
   | exact spec_ExpandProduct.mono _ _ _ _ _ _
   | exact LeO.none _
   | refine LeO.ite ?_ ?_
   | refine LeO.bind ?_ (fun _ => ?_)
set_option maxHeartbeats 8000000 in
set_option maxRecDepth 100000 in
theorem laws_FnExactExpandProduct.calls (k : Nat) (a0_0 : Int) (A0_1 : Option Addr) (c0_1 : Nat) (l0_1 : List Int) (A0_2 : Option Addr) (c0_2 : Nat) (l0_2 : List Int) (a1 : Int) (a2 : Int) (r : Bool) (w : World) (hr0_1 : Kd.C (Kd.int .i64) w A0_1 l0_1.length l0_1) (hc0_1 : l0_1.length ≤ c0_1) (hr0_2 : Kd.C (Kd.int .i64) w A0_2 l0_2.length l0_2) (hc0_2 : l0_2.length ≤ c0_2) (hT : Aside0 (r = true)) (h : laws_FnExactExpandProduct.f k a0_0 l0_1 l0_2 a1 a2 = some r) :
  Calls Try.prog 8 #[.agg #[.int .i64 a0_0, .slice A0_1 l0_1.length c0_1, .slice A0_2 l0_2.length c0_2], .int .i64 a1, .int .i64 a2] w fun e w' => e = .returned (.bool r) ∧ Below w.heap.size w w' := by
 have hu24 := Try.underlying24
 have hu29 := Try.underlying29
 have HR0_1 := Aside0.mk hr0_1
 have HC0_1 := Aside0.mk hc0_1
 clear hr0_1 hc0_1
 have HR0_2 := Aside0.mk hr0_2
 have HC0_2 := Aside0.mk hc0_2
 clear hr0_2 hc0_2
 have HB := Aside0.mk (Below.refl w.heap.size w)
 have H : ((laws_szJacobi.f a0_0 l0_1 l0_2 1048576).bind fun t854 => (if t854 < 0 then (some true) else ((laws_toJacobi.f k a0_0 l0_1 l0_2).bind fun bt855 => ((spec_ExpandProduct.f k bt855.1 bt855.2.1 bt855.2.2 a1 a2).bind fun bt862 => ((laws_toJacobi.f k a0_0 l0_1 l0_2).bind fun bt866 => ((impl_ExpandProduct.f k bt866.1 bt866.2.1 bt866.2.2 a1 a2).bind fun bt874 => ((laws_eqInt64S.f k bt874.1 bt862.1).bind fun t878 => (if t878 = true then (laws_FnExactExpandProduct.j0 k a1 a2 bt862.1 bt862.2 bt874.1 bt874.2 (bt874.2 != bt862.2) a0_0 l0_1 l0_2 bt866.1 bt866.2.1 bt866.2.2) else (laws_FnExactExpandProduct.j0 k a1 a2 bt862.1 bt862.2 bt874.1 bt874.2 true a0_0 l0_1 l0_2 bt866.1 bt866.2.1 bt866.2.2))))))))) = some r := h
 clear h
 replace H := Option.bind_eq_some_iff.mp H
 obtain ⟨t854, A40, H⟩ := H
 replace H : (if t854 < 0 then (some true) else ((laws_toJacobi.f k a0_0 l0_1 l0_2).bind fun bt855 => ((spec_ExpandProduct.f k bt855.1 bt855.2.1 bt855.2.2 a1 a2).bind fun bt862 => ((laws_toJacobi.f k a0_0 l0_1 l0_2).bind fun bt866 => ((impl_ExpandProduct.f k bt866.1 bt866.2.1 bt866.2.2 a1 a2).bind fun bt874 => ((laws_eqInt64S.f k bt874.1 bt862.1).bind fun t878 => (if t878 = true then (laws_FnExactExpandProduct.j0 k a1 a2 bt862.1 bt862.2 bt874.1 bt874.2 (bt874.2 != bt862.2) a0_0 l0_1 l0_2 bt866.1 bt866.2.1 bt866.2.2) else (laws_FnExactExpandProduct.j0 k a1 a2 bt862.1 bt862.2 bt874.1 bt874.2 true a0_0 l0_1 l0_2 bt866.1 bt866.2.1 bt866.2.2)))))))) = some r := H
 have A4 := Aside0.mk A40
 clear A40
 by_cases c5 : t854 < 0
 ·rw [if_pos c5] at H
  have c5b0 : decide (t854 < 0) = true := decide_eq_true c5
  clear c5
  obtain rfl := Option.some.inj H
  go_enter Try.func8, Try.ntmps8
  go_wp2_with (first | ((with_reducible refine gate_dst (N := 3) rfl ?_); refine box_event ?hg (N := 3) ?hd (cs := #[.int .i64 a0_0, .slice A0_1 l0_1.length c0_1, .slice A0_2 l0_2.length c0_2]) (t := 24) ?hr ?_; (case hd => rfl); (case hg => rfl); (case hr => first | (go_simp; done) | (go_simp; rfl)); intro gb853 hg w6 hbox hb; have n0_ := Aside0.mk (below_step ZB hb); have n1_ := Aside0.mk (hbox); have n2_ := Aside0.mk ((ZG hg : w.heap.size ≤ gb853)); have n3_ := Aside0.mk ((ZG hg : w.heap.size ≤ gb853)); clear HB; have HB := n0_; have BK853 := n1_; have GW853 := n2_; have GE853 := n3_; clear n0_ n1_ n2_ n3_; clear hb hbox hg; obtain ⟨hcz7_0, hcz7_1, hcz7_2, hfz7_0, hfz7_1, hfz7_2⟩ := ZD3 BK853) | ((with_reducible refine gate_callee (f := 14) rfl ?_); refine goesL_ (some 20) rfl rfl Try.func14 (by kernel_rfl) rfl #[.agg #[.int .i64 a0_0, .slice A0_1 l0_1.length c0_1, .slice A0_2 l0_2.length c0_2], .int .i64 1048576] rfl ZA ?_; (with_reducible refine (laws_szJacobi.calls a0_0 _ _ l0_1 _ _ l0_2 1048576 t854 _ ?side1 ?side2 ?side3 ?side4 A4.out).mono ?_); (case side1 => exact ZC HR0_1); (case side2 => exact HC0_1.out); (case side3 => exact ZC HR0_2); (case side4 => exact HC0_2.out); rintro e w8 ⟨rfl, hb⟩; refine ⟨_, rfl, ?_⟩; have n0_ := ZL BK853 hb; have n1_ := Aside0.mk (below_step ZB hb); clear BK853; clear HB; have BK853 := n0_; have HB := n1_; clear n0_ n1_; (try clear hb); (try clear hb2); (try clear hk); (try clear hi)))
  go_ret
  exact ⟨by first | rfl | (simp [errW_none, errW_some] <;> rfl) | (simp [*, errW_none, errW_some] <;> rfl), ZB⟩
 ·rw [if_neg c5] at H
  have c5b0 : decide (t854 < 0) = false := decide_eq_false c5
  clear c5
  replace H := Option.bind_eq_some_iff.mp H
  obtain ⟨⟨t855, t856, t859⟩, A90, H⟩ := H
  replace H : ((spec_ExpandProduct.f k t855 t856 t859 a1 a2).bind fun bt862 => ((laws_toJacobi.f k a0_0 l0_1 l0_2).bind fun bt866 => ((impl_ExpandProduct.f k bt866.1 bt866.2.1 bt866.2.2 a1 a2).bind fun bt874 => ((laws_eqInt64S.f k bt874.1 bt862.1).bind fun t878 => (if t878 = true then (laws_FnExactExpandProduct.j0 k a1 a2 bt862.1 bt862.2 bt874.1 bt874.2 (bt874.2 != bt862.2) a0_0 l0_1 l0_2 bt866.1 bt866.2.1 bt866.2.2) else (laws_FnExactExpandProduct.j0 k a1 a2 bt862.1 bt862.2 bt874.1 bt874.2 true a0_0 l0_1 l0_2 bt866.1 bt866.2.1 bt866.2.2)))))) = some r := H
  have A9 := Aside0.mk A90
  clear A90
  replace H := Option.bind_eq_some_iff.mp H
  obtain ⟨⟨t862, t865⟩, A100, H⟩ := H
  replace H : ((laws_toJacobi.f k a0_0 l0_1 l0_2).bind fun bt866 => ((impl_ExpandProduct.f k bt866.1 bt866.2.1 bt866.2.2 a1 a2).bind fun bt874 => ((laws_eqInt64S.f k bt874.1 t862).bind fun t878 => (if t878 = true then (laws_FnExactExpandProduct.j0 k a1 a2 t862 t865 bt874.1 bt874.2 (bt874.2 != t865) a0_0 l0_1 l0_2 bt866.1 bt866.2.1 bt866.2.2) else (laws_FnExactExpandProduct.j0 k a1 a2 t862 t865 bt874.1 bt874.2 true a0_0 l0_1 l0_2 bt866.1 bt866.2.1 bt866.2.2))))) = some r := H
  have A10 := Aside0.mk A100
  clear A100
  replace H := Option.bind_eq_some_iff.mp H
  obtain ⟨⟨t866, t867, t870⟩, A110, H⟩ := H
  replace H : ((impl_ExpandProduct.f k t866 t867 t870 a1 a2).bind fun bt874 => ((laws_eqInt64S.f k bt874.1 t862).bind fun t878 => (if t878 = true then (laws_FnExactExpandProduct.j0 k a1 a2 t862 t865 bt874.1 bt874.2 (bt874.2 != t865) a0_0 l0_1 l0_2 t866 t867 t870) else (laws_FnExactExpandProduct.j0 k a1 a2 t862 t865 bt874.1 bt874.2 true a0_0 l0_1 l0_2 t866 t867 t870)))) = some r := H
  have A11 := Aside0.mk A110
  clear A110
  replace H := Option.bind_eq_some_iff.mp H
  obtain ⟨⟨t874, t877⟩, A120, H⟩ := H
  replace H : ((laws_eqInt64S.f k t874 t862).bind fun t878 => (if t878 = true then (laws_FnExactExpandProduct.j0 k a1 a2 t862 t865 t874 t877 (t877 != t865) a0_0 l0_1 l0_2 t866 t867 t870) else (laws_FnExactExpandProduct.j0 k a1 a2 t862 t865 t874 t877 true a0_0 l0_1 l0_2 t866 t867 t870))) = some r := H
  have A12 := Aside0.mk A120
  clear A120
  have HC13 := Aside0.mk H
  clear H
  go_enter Try.func8, Try.ntmps8
  go_upto_region 8 with (first | ((with_reducible refine gate_dst (N := 3) rfl ?_); refine box_event ?hg (N := 3) ?hd (cs := #[.int .i64 a0_0, .slice A0_1 l0_1.length c0_1, .slice A0_2 l0_2.length c0_2]) (t := 24) ?hr ?_; (case hd => rfl); (case hg => rfl); (case hr => first | (go_simp; done) | (go_simp; rfl)); intro gb853 hg w14 hbox hb; have n0_ := Aside0.mk (below_step ZB hb); have n1_ := Aside0.mk (hbox); have n2_ := Aside0.mk ((ZG hg : w.heap.size ≤ gb853)); have n3_ := Aside0.mk ((ZG hg : w.heap.size ≤ gb853)); clear HB; have HB := n0_; have BK853 := n1_; have GW853 := n2_; have GE853 := n3_; clear n0_ n1_ n2_ n3_; clear hb hbox hg; obtain ⟨hcz15_0, hcz15_1, hcz15_2, hfz15_0, hfz15_1, hfz15_2⟩ := ZD3 BK853) | ((with_reducible refine gate_callee (f := 14) rfl ?_); refine goesL_ (some 20) rfl rfl Try.func14 (by kernel_rfl) rfl #[.agg #[.int .i64 a0_0, .slice A0_1 l0_1.length c0_1, .slice A0_2 l0_2.length c0_2], .int .i64 1048576] rfl ZA ?_; (with_reducible refine (laws_szJacobi.calls a0_0 _ _ l0_1 _ _ l0_2 1048576 t854 _ ?side1 ?side2 ?side3 ?side4 A4.out).mono ?_); (case side1 => exact ZC HR0_1); (case side2 => exact HC0_1.out); (case side3 => exact ZC HR0_2); (case side4 => exact HC0_2.out); rintro e w16 ⟨rfl, hb⟩; refine ⟨_, rfl, ?_⟩; have n0_ := ZL BK853 hb; have n1_ := Aside0.mk (below_step ZB hb); clear BK853; clear HB; have BK853 := n0_; have HB := n1_; clear n0_ n1_; (try clear hb); (try clear hb2); (try clear hk); (try clear hi); obtain ⟨hcz17_0, hcz17_1, hcz17_2, hfz17_0, hfz17_1, hfz17_2⟩ := ZD3 BK853) | ((with_reducible refine gate_callee (f := 16) rfl ?_); refine goesL_ (some 25) rfl rfl Try.func16 (by kernel_rfl) rfl #[.agg #[.int .i64 a0_0, .slice A0_1 l0_1.length c0_1, .slice A0_2 l0_2.length c0_2]] rfl ZA ?_; (with_reducible refine (laws_toJacobi.calls k a0_0 _ _ l0_1 _ _ l0_2 t855 t856 t859 _ ?side1 ?side2 ?side3 ?side4 A9.out).mono ?_); (case side1 => exact ZC HR0_1); (case side2 => exact HC0_1.out); (case side3 => exact ZC HR0_2); (case side4 => exact HC0_2.out); rintro e w18 ⟨v857, v860, rfl, ho0, ho1, hb⟩; refine ⟨_, rfl, ?_⟩; have n0_ := Aside0.mk (Kd.R_lower ho0 (below_size ZB)); have n1_ := Aside0.mk (Kd.R_lower ho1 (below_size ZB)); have n2_ := ZL BK853 hb; have n3_ := Aside0.mk (below_step ZB hb); clear BK853; clear HB; have HO858 := n0_; have HO861 := n1_; have BK853 := n2_; have HB := n3_; clear n0_ n1_ n2_ n3_; (try clear hb); (try clear hb2); (try clear hk); (try clear hi); (try clear ho0); (try clear ho1); obtain ⟨Ao19, co19, eo19⟩ := Kd.R_slice HO858.out; subst eo19; obtain ⟨Ao20, co20, eo20⟩ := Kd.R_slice HO861.out; subst eo20) | ((with_reducible refine gate_callee (f := 36) rfl ?_); refine goesL_ (some 28) rfl rfl Try.func36 (by kernel_rfl) rfl #[.agg #[.int .i64 t855, .slice Ao19 t856.length co19, .slice Ao20 t859.length co20], .int .i64 a1, .int .i64 a2] rfl ZA ?_; (with_reducible refine (spec_ExpandProduct.calls k t855 _ _ t856 _ _ t859 a1 a2 t862 t865 _ ?side1 ?side2 ?side3 ?side4 A10.out).mono ?_); (case side1 => repeat (first | exact (Kd.R_reads' HO858.out).2.2 | (with_reducible refine Kd.C_alloc ?_ _) | (with_reducible refine Kd.C_drewN ?_ _) | (with_reducible refine Kd.C_drew ?_))); (case side2 => exact (Kd.R_reads' HO858.out).2.1); (case side3 => repeat (first | exact (Kd.R_reads' HO861.out).2.2 | (with_reducible refine Kd.C_alloc ?_ _) | (with_reducible refine Kd.C_drewN ?_ _) | (with_reducible refine Kd.C_drew ?_))); (case side4 => exact (Kd.R_reads' HO861.out).2.1); rintro e w21 ⟨v863, rfl, ho0, hb⟩; refine ⟨_, rfl, ?_⟩; have n0_ := Aside0.mk (Kd.R_elder' (ZR HO858) (Kd.R_base ho0) hb); have n1_ := Aside0.mk (Kd.R_elder' (ZR HO861) (Kd.R_base ho0) hb); have n2_ := Aside0.mk (Kd.R_lower (Kd.R_new' (Kd.R_new' ho0 (Kd.R_lt (ZR HO858))) (Kd.R_lt (ZR HO861))) (below_size ZB)); have n3_ := ZL BK853 hb; have n4_ := Aside0.mk (below_step ZB hb); clear HO858; clear HO861; clear BK853; clear HB; have HO858 := n0_; have HO861 := n1_; have HO864 := n2_; have BK853 := n3_; have HB := n4_; clear n0_ n1_ n2_ n3_ n4_; (try clear hb); (try clear hb2); (try clear hk); (try clear hi); (try clear ho0); obtain ⟨hcz22_0, hcz22_1, hcz22_2, hfz22_0, hfz22_1, hfz22_2⟩ := ZD3 BK853) | ((with_reducible refine gate_callee (f := 16) rfl ?_); refine goesL_ (some 32) rfl rfl Try.func16 (by kernel_rfl) rfl #[.agg #[.int .i64 a0_0, .slice A0_1 l0_1.length c0_1, .slice A0_2 l0_2.length c0_2]] rfl ZA ?_; (with_reducible refine (laws_toJacobi.calls k a0_0 _ _ l0_1 _ _ l0_2 t866 t867 t870 _ ?side1 ?side2 ?side3 ?side4 A11.out).mono ?_); (case side1 => exact ZC HR0_1); (case side2 => exact HC0_1.out); (case side3 => exact ZC HR0_2); (case side4 => exact HC0_2.out); rintro e w23 ⟨v868, v871, rfl, ho0, ho1, hb⟩; refine ⟨_, rfl, ?_⟩; have n0_ := Aside0.mk (Kd.R_mono (Kd.R_told (Kd.R_told (Kd.R_old (ZR HO858) hb) (Kd.R_base ho0)) (Kd.R_base ho1)) (fun _ h_ => h_.1)); have n1_ := Aside0.mk (Kd.R_mono (Kd.R_told (Kd.R_told (Kd.R_old (ZR HO861) hb) (Kd.R_base ho0)) (Kd.R_base ho1)) (fun _ h_ => h_.1)); have n2_ := Aside0.mk (Kd.R_mono (Kd.R_told (Kd.R_told (Kd.R_old (ZR HO864) hb) (Kd.R_base ho0)) (Kd.R_base ho1)) (fun _ h_ => h_.1)); have n3_ := Aside0.mk (Kd.R_lower (Kd.R_new' (Kd.R_new' (Kd.R_new' ho0 (Kd.R_lt (ZR HO858))) (Kd.R_lt (ZR HO861))) (Kd.R_lt (ZR HO864))) (below_size ZB)); have n4_ := Aside0.mk (Kd.R_lower (Kd.R_new' (Kd.R_new' (Kd.R_new' ho1 (Kd.R_lt (ZR HO858))) (Kd.R_lt (ZR HO861))) (Kd.R_lt (ZR HO864))) (below_size ZB)); have n5_ := ZL BK853 hb; have n6_ := Aside0.mk (below_step ZB hb); clear HO858; clear HO861; clear HO864; clear BK853; clear HB; have HO858 := n0_; have HO861 := n1_; have HO864 := n2_; have HO869 := n3_; have HO872 := n4_; have BK853 := n5_; have HB := n6_; clear n0_ n1_ n2_ n3_ n4_ n5_ n6_; (try clear hb); (try clear hb2); (try clear hk); (try clear hi); (try clear ho0); (try clear ho1)) | ((with_reducible refine gate_dst (N := 10) rfl ?_); refine box_event ?hg (N := 10) ?hd (cs := #[.int .i64 0, .slice none 0 0, .slice none 0 0]) (t := 29) ?hr ?_; (case hd => rfl); (case hg => rfl); (case hr => first | (go_simp; done) | (go_simp; rfl)); intro gb873 hg w24 hbox hb; have n0_ := Aside0.mk (Kd.R_below (ZR HO858) hb); have n1_ := Aside0.mk (Kd.R_below (ZR HO861) hb); have n2_ := Aside0.mk (Kd.R_below (ZR HO864) hb); have n3_ := Aside0.mk (Kd.R_below (ZR HO869) hb); have n4_ := Aside0.mk (Kd.R_below (ZR HO872) hb); have n5_ := ZL BK853 hb; have n6_ := Aside0.mk (below_step ZB hb); have n7_ := Aside0.mk (hbox); have n8_ := Aside0.mk ((ZG hg : w.heap.size ≤ gb873)); have n9_ := Aside0.mk ((ZG hg : w.heap.size ≤ gb873)); have n10_ := Aside0.mk ((ZN hg BK853 : gb853 ≠ gb873)); have n11_ := Aside0.mk ((ZM hg BK853 : gb873 ≠ gb853)); clear HO858; clear HO861; clear HO864; clear HO869; clear HO872; clear BK853; clear HB; have HO858 := n0_; have HO861 := n1_; have HO864 := n2_; have HO869 := n3_; have HO872 := n4_; have BK853 := n5_; have HB := n6_; have BK873 := n7_; have GW873 := n8_; have GE873 := n9_; have NB853_873 := n10_; have NB873_853 := n11_; clear n0_ n1_ n2_ n3_ n4_ n5_ n6_ n7_ n8_ n9_ n10_ n11_; clear hb hbox hg; have hnb25 := NB873_853.out; have hnc25 := NB853_873.out; obtain ⟨hcz26_0, hcz26_1, hcz26_2, hfz26_0, hfz26_1, hfz26_2⟩ := ZD3 BK873; obtain ⟨Ao27, co27, eo27⟩ := Kd.R_slice HO869.out; subst eo27; obtain ⟨Ao28, co28, eo28⟩ := Kd.R_slice HO872.out; subst eo28) | ((with_reducible refine gate_callee (f := 37) rfl ?_); refine goesL_ (some 37) rfl rfl Try.func37 (by kernel_rfl) rfl #[.agg #[.int .i64 t866, .slice Ao27 t867.length co27, .slice Ao28 t870.length co28], .int .i64 a1, .int .i64 a2] rfl ZA ?_; (with_reducible refine (impl_ExpandProduct.calls k t866 _ _ t867 _ _ t870 a1 a2 t874 t877 _ ?side1 ?side2 ?side3 ?side4 A12.out).mono ?_); (case side1 => refine (Kd.R_reads' (e := 2) (base := w.heap.size) (ok := fun k_ => (((some k_ ≠ (.slice Ao28 t870.length co28 : Value).ownBlock ∧ some k_ ≠ (.slice Ao19 t856.length co19 : Value).ownBlock) ∧ some k_ ≠ (.slice Ao20 t859.length co20 : Value).ownBlock) ∧ some k_ ≠ (v863 : Value).ownBlock)) (n := t867.length) (c := co27) ?_).2.2; exact (ZQ (ZF3 HO869 BK873 (.int .i64 t866) (.slice Ao27 t867.length co27) (.slice Ao28 t870.length co28)))); (case side2 => exact (Kd.R_reads' HO869.out).2.1); (case side3 => refine (Kd.R_reads' (e := 2) (base := w.heap.size) (ok := fun k_ => (((some k_ ≠ (.slice Ao27 t867.length co27 : Value).ownBlock ∧ some k_ ≠ (.slice Ao19 t856.length co19 : Value).ownBlock) ∧ some k_ ≠ (.slice Ao20 t859.length co20 : Value).ownBlock) ∧ some k_ ≠ (v863 : Value).ownBlock)) (n := t870.length) (c := co28) ?_).2.2; exact (ZQ (ZF3 HO872 BK873 (.int .i64 t866) (.slice Ao27 t867.length co27) (.slice Ao28 t870.length co28)))); (case side4 => exact (Kd.R_reads' HO872.out).2.1); rintro e w29 ⟨v875, rfl, ho0, hb⟩; refine ⟨_, rfl, ?_⟩; have n0_ := Aside0.mk (Kd.R_elder' (ZQ (ZF3 HO858 BK873 (.int .i64 t866) (.slice Ao27 t867.length co27) (.slice Ao28 t870.length co28))) (Kd.R_base ho0) hb); have n1_ := Aside0.mk (Kd.R_elder' (ZQ (ZF3 HO861 BK873 (.int .i64 t866) (.slice Ao27 t867.length co27) (.slice Ao28 t870.length co28))) (Kd.R_base ho0) hb); have n2_ := Aside0.mk (Kd.R_elder' (ZQ (ZF3 HO864 BK873 (.int .i64 t866) (.slice Ao27 t867.length co27) (.slice Ao28 t870.length co28))) (Kd.R_base ho0) hb); have n3_ := Aside0.mk (Kd.R_elder' (ZQ (ZF3 HO869 BK873 (.int .i64 t866) (.slice Ao27 t867.length co27) (.slice Ao28 t870.length co28))) (Kd.R_base ho0) hb); have n4_ := Aside0.mk (Kd.R_elder' (ZQ (ZF3 HO872 BK873 (.int .i64 t866) (.slice Ao27 t867.length co27) (.slice Ao28 t870.length co28))) (Kd.R_base ho0) hb); have n5_ := Aside0.mk (Kd.R_lower (Kd.R_new' (Kd.R_new' (Kd.R_new' (Kd.R_new' (Kd.R_new' ho0 (Kd.R_lt (ZQ (ZF3 HO858 BK873 (.int .i64 t866) (.slice Ao27 t867.length co27) (.slice Ao28 t870.length co28))))) (Kd.R_lt (ZQ (ZF3 HO861 BK873 (.int .i64 t866) (.slice Ao27 t867.length co27) (.slice Ao28 t870.length co28))))) (Kd.R_lt (ZQ (ZF3 HO864 BK873 (.int .i64 t866) (.slice Ao27 t867.length co27) (.slice Ao28 t870.length co28))))) (Kd.R_lt (ZQ (ZF3 HO869 BK873 (.int .i64 t866) (.slice Ao27 t867.length co27) (.slice Ao28 t870.length co28))))) (Kd.R_lt (ZQ (ZF3 HO872 BK873 (.int .i64 t866) (.slice Ao27 t867.length co27) (.slice Ao28 t870.length co28))))) (below_size ZB)); have n6_ := Aside0.mk (blk_below (g := gb853) (o := .cells #[.int .i64 a0_0, .slice A0_1 l0_1.length c0_1, .slice A0_2 l0_2.length c0_2] 24 (0, 0)) (by refine ZS ?_; refine blk_far ?_ NB853_873.out _; refine ZS ?_; refine blk_far ?_ NB853_873.out _; refine ZS ?_; refine blk_far ?_ NB853_873.out _; refine ZS ?_; exact BK853.out) hb); have n7_ := Aside0.mk (blk_below (g := gb873) (o := .cells #[.int .i64 t866, .slice Ao27 t867.length co27, .slice Ao28 t870.length co28] 29 (0, 0)) (by refine ZS ?_; refine blk_put (cs := #[.int .i64 t866, .slice Ao27 t867.length co27, .slice none 0 0]) ?_ 2 _ rfl; refine ZS ?_; refine blk_put (cs := #[.int .i64 t866, .slice none 0 0, .slice none 0 0]) ?_ 1 _ rfl; refine ZS ?_; refine blk_put (cs := #[.int .i64 0, .slice none 0 0, .slice none 0 0]) ?_ 0 _ rfl; refine ZS ?_; exact BK873.out) hb); have n8_ := Aside0.mk (below_step ZB hb); clear HO858; clear HO861; clear HO864; clear HO869; clear HO872; clear BK853; clear BK873; clear HB; have HO858 := n0_; have HO861 := n1_; have HO864 := n2_; have HO869 := n3_; have HO872 := n4_; have HO876 := n5_; have BK853 := n6_; have BK873 := n7_; have HB := n8_; clear n0_ n1_ n2_ n3_ n4_ n5_ n6_ n7_ n8_; (try clear hb); (try clear hb2); (try clear hk); (try clear hi); (try clear ho0)))
  (try simp only [Act.put, List.setIfInBounds_toArray, List.set_cons_zero, List.set_cons_succ])
  go_cut [48] (fun v48 wc => ∃ (kq : Nat) (x48_12 : Bool), v48 = .bool x48_12 ∧ Aside0 (laws_FnExactExpandProduct.j0 kq a1 a2 t862 t865 t874 t877 x48_12 a0_0 l0_1 l0_2 t866 t867 t870 = some r) ∧ Aside0 (kq ≤ k) ∧ Aside0 (Kd.R (Kd.int .i64) 2 wc w.heap.size (fun k_ => some k_ ≠ (v875 : Value).ownBlock ∧ some k_ ≠ ((.slice Ao27 t867.length co27) : Value).ownBlock ∧ some k_ ≠ ((.slice Ao28 t870.length co28) : Value).ownBlock) v863 t862) ∧ Aside0 (Kd.R (Kd.int .i64) 2 wc w.heap.size (fun k_ => some k_ ≠ (v863 : Value).ownBlock ∧ some k_ ≠ ((.slice Ao27 t867.length co27) : Value).ownBlock ∧ some k_ ≠ ((.slice Ao28 t870.length co28) : Value).ownBlock) v875 t874) ∧ Aside0 (Kd.R (Kd.int .i64) 2 wc w.heap.size (fun k_ => some k_ ≠ (v863 : Value).ownBlock ∧ some k_ ≠ (v875 : Value).ownBlock ∧ some k_ ≠ ((.slice Ao28 t870.length co28) : Value).ownBlock) (.slice Ao27 t867.length co27) t867) ∧ Aside0 (Kd.R (Kd.int .i64) 2 wc w.heap.size (fun k_ => some k_ ≠ (v863 : Value).ownBlock ∧ some k_ ≠ (v875 : Value).ownBlock ∧ some k_ ≠ ((.slice Ao27 t867.length co27) : Value).ownBlock) (.slice Ao28 t870.length co28) t870) ∧ Aside0 (wc.heap[gb853]? = some (.cells #[.int .i64 a0_0, (.slice A0_1 l0_1.length c0_1), (.slice A0_2 l0_2.length c0_2)] 24 (0, 0))) ∧ Aside0 (wc.heap[gb873]? = some (.cells #[.int .i64 t866, (.slice Ao27 t867.length co27), (.slice Ao28 t870.length co28)] 29 (0, 0))) ∧ Aside0 (Below w.heap.size w wc))
  case first =>
   have H := HC13.out
   clear HC13
   replace H := Option.bind_eq_some_iff.mp H
   obtain ⟨t878, A300, H⟩ := H
   replace H : (if t878 = true then (laws_FnExactExpandProduct.j0 k a1 a2 t862 t865 t874 t877 (t877 != t865) a0_0 l0_1 l0_2 t866 t867 t870) else (laws_FnExactExpandProduct.j0 k a1 a2 t862 t865 t874 t877 true a0_0 l0_1 l0_2 t866 t867 t870)) = some r := H
   have A30 := Aside0.mk A300
   clear A300
   by_cases c31 : t878 = true
   ·subst c31
    have H1 : (laws_FnExactExpandProduct.j0 k a1 a2 t862 t865 t874 t877 (t877 != t865) a0_0 l0_1 l0_2 t866 t867 t870) = some r := by rw [if_pos rfl] at H; exact H
    clear H
    have H := H1
    clear H1
    have H' := Aside0.mk H
    clear H
    obtain ⟨Ao32, co32, eo32⟩ := Kd.R_slice HO876.out
    subst eo32
    obtain ⟨Ao33, co33, eo33⟩ := Kd.R_slice HO864.out
    subst eo33
    go_wp2_with (first | ((with_reducible refine gate_callee (f := 29) rfl ?_); refine goesL_ (some 42) rfl rfl Try.func29 (by kernel_rfl) rfl #[.slice Ao32 t874.length co32, .slice Ao33 t862.length co33] rfl ZA ?_; (with_reducible refine (laws_eqInt64S.calls k _ _ t874 _ _ t862 true _ ?side1 ?side2 ?side3 ?side4 A30.out).mono ?_); (case side1 => repeat (first | exact (Kd.R_reads' HO876.out).2.2 | (with_reducible refine Kd.C_alloc ?_ _) | (with_reducible refine Kd.C_drewN ?_ _) | (with_reducible refine Kd.C_drew ?_))); (case side2 => exact (Kd.R_reads' HO876.out).2.1); (case side3 => repeat (first | exact (Kd.R_reads' HO864.out).2.2 | (with_reducible refine Kd.C_alloc ?_ _) | (with_reducible refine Kd.C_drewN ?_ _) | (with_reducible refine Kd.C_drew ?_))); (case side4 => exact (Kd.R_reads' HO864.out).2.1); rintro e w' ⟨rfl, ⟨nd, rfl⟩⟩; refine ⟨_, rfl, ?_⟩))
    go_meet
    case rel => exact ⟨_, ((t877 != t865)), (by first | rfl | (simp; done) | (simp [*]; done)), H', ⟨by first | omega | exact Nat.le_refl _⟩, ⟨by refine ZQ ?_; exact Kd.R_mono HO864.out (fun _ hk => (And.intro (hk.2) ((And.intro (hk.1.1.2) (hk.1.2)))))⟩, ⟨by refine ZQ ?_; exact Kd.R_mono HO876.out (fun _ hk => (And.intro (hk.1.1.2) ((And.intro (hk.1.2) (hk.2)))))⟩, ⟨by refine ZQ ?_; exact Kd.R_mono HO869.out (fun _ hk => (And.intro (hk.1.2) ((And.intro (hk.2) (hk.1.1.1.1)))))⟩, ⟨by refine ZQ ?_; exact Kd.R_mono HO872.out (fun _ hk => (And.intro (hk.1.2) ((And.intro (hk.2) (hk.1.1.1.1)))))⟩, ⟨ZK BK853⟩, ⟨ZK BK873⟩, ⟨ZB⟩⟩
   ·replace c31 := Bool.eq_false_iff.mpr c31
    subst c31
    have H1 : (laws_FnExactExpandProduct.j0 k a1 a2 t862 t865 t874 t877 true a0_0 l0_1 l0_2 t866 t867 t870) = some r := by rw [if_neg (show ¬ (false = true) by decide)] at H; exact H
    clear H
    have H := H1
    clear H1
    have H' := Aside0.mk H
    clear H
    obtain ⟨Ao34, co34, eo34⟩ := Kd.R_slice HO876.out
    subst eo34
    obtain ⟨Ao35, co35, eo35⟩ := Kd.R_slice HO864.out
    subst eo35
    go_wp2_with (first | ((with_reducible refine gate_callee (f := 29) rfl ?_); refine goesL_ (some 42) rfl rfl Try.func29 (by kernel_rfl) rfl #[.slice Ao34 t874.length co34, .slice Ao35 t862.length co35] rfl ZA ?_; (with_reducible refine (laws_eqInt64S.calls k _ _ t874 _ _ t862 false _ ?side1 ?side2 ?side3 ?side4 A30.out).mono ?_); (case side1 => repeat (first | exact (Kd.R_reads' HO876.out).2.2 | (with_reducible refine Kd.C_alloc ?_ _) | (with_reducible refine Kd.C_drewN ?_ _) | (with_reducible refine Kd.C_drew ?_))); (case side2 => exact (Kd.R_reads' HO876.out).2.1); (case side3 => repeat (first | exact (Kd.R_reads' HO864.out).2.2 | (with_reducible refine Kd.C_alloc ?_ _) | (with_reducible refine Kd.C_drewN ?_ _) | (with_reducible refine Kd.C_drew ?_))); (case side4 => exact (Kd.R_reads' HO864.out).2.1); rintro e w' ⟨rfl, ⟨nd, rfl⟩⟩; refine ⟨_, rfl, ?_⟩))
    go_meet
    case rel => exact ⟨_, (true), (by first | rfl | (simp; done) | (simp [*]; done)), H', ⟨by first | omega | exact Nat.le_refl _⟩, ⟨by refine ZQ ?_; exact Kd.R_mono HO864.out (fun _ hk => (And.intro (hk.2) ((And.intro (hk.1.1.2) (hk.1.2)))))⟩, ⟨by refine ZQ ?_; exact Kd.R_mono HO876.out (fun _ hk => (And.intro (hk.1.1.2) ((And.intro (hk.1.2) (hk.2)))))⟩, ⟨by refine ZQ ?_; exact Kd.R_mono HO869.out (fun _ hk => (And.intro (hk.1.2) ((And.intro (hk.2) (hk.1.1.1.1)))))⟩, ⟨by refine ZQ ?_; exact Kd.R_mono HO872.out (fun _ hk => (And.intro (hk.1.2) ((And.intro (hk.2) (hk.1.1.1.1)))))⟩, ⟨ZK BK853⟩, ⟨ZK BK873⟩, ⟨ZB⟩⟩
  case rest =>
   clear HC13
   try clear c1
   try clear c2
   try clear p2
   try clear c3
   try clear c5
   try clear c5b0
   try clear c8
   try clear c14
   try clear c16
   try clear c25
   try clear c29
   try clear c31
   try clear hcz15_0
   try clear hcz15_1
   try clear hcz15_2
   try clear hcz17_0
   try clear hcz17_1
   try clear hcz17_2
   try clear hcz22_0
   try clear hcz22_1
   try clear hcz22_2
   try clear hcz26_0
   try clear hcz26_1
   try clear hcz26_2
   try clear hcz7_0
   try clear hcz7_1
   try clear hcz7_2
   try clear hfz15_0
   try clear hfz15_1
   try clear hfz15_2
   try clear hfz17_0
   try clear hfz17_1
   try clear hfz17_2
   try clear hfz22_0
   try clear hfz22_1
   try clear hfz22_2
   try clear hfz26_0
   try clear hfz26_1
   try clear hfz26_2
   try clear hfz7_0
   try clear hfz7_1
   try clear hfz7_2
   obtain ⟨kq, x48_12, rfl, HA, HJ12, HO_8, HO_11, HO_874001, HO_874002, BK853, BK873, HB⟩ := hcut
   cases kq with
   | zero => exact absurd HA.out (by simp [laws_FnExactExpandProduct.j0])
   | succ kj12 =>
    have H := HA.out
    clear HA
    simp only [laws_FnExactExpandProduct.j0] at H
    by_cases c36 : x48_12 = true
    ·subst c36
     have H1 : (some false) = some r := by rw [if_pos rfl] at H; exact H
     clear H
     have H := H1
     clear H1
     exact absurd (H.trans (congrArg some hT.out)) (by simp)
    ·replace c36 := Bool.eq_false_iff.mpr c36
     subst c36
     have H1 : ((laws_toJacobi.f kj12 a0_0 l0_1 l0_2).bind fun bt879 => ((laws_eqJacobi.f kj12 t866 t867 t870 bt879.1 bt879.2.1 bt879.2.2).bind fun t886 => (if t886 = true then ((laws_markJacobi.f kj12 t866 t867 t870 1).bind fun bt887 => (if bt887.1 < 0 then (laws_FnExactExpandProduct.j1 kj12 a1 a2 t862 t865 t874 true a0_0 l0_1 l0_2) else ((laws_eqInt64S.f kj12 t874 t862).bind fun t890 => (if t890 = true then (laws_FnExactExpandProduct.j1 kj12 a1 a2 t862 t865 t874 (t877 != t865) a0_0 l0_1 l0_2) else (laws_FnExactExpandProduct.j1 kj12 a1 a2 t862 t865 t874 true a0_0 l0_1 l0_2))))) else (some false)))) = some r := by rw [if_neg (show ¬ (false = true) by decide)] at H; exact H
     clear H
     have H := H1
     clear H1
     replace H := Option.bind_eq_some_iff.mp H
     obtain ⟨⟨t879, t880, t883⟩, A370, H⟩ := H
     replace H : ((laws_eqJacobi.f kj12 t866 t867 t870 t879 t880 t883).bind fun t886 => (if t886 = true then ((laws_markJacobi.f kj12 t866 t867 t870 1).bind fun bt887 => (if bt887.1 < 0 then (laws_FnExactExpandProduct.j1 kj12 a1 a2 t862 t865 t874 true a0_0 l0_1 l0_2) else ((laws_eqInt64S.f kj12 t874 t862).bind fun t890 => (if t890 = true then (laws_FnExactExpandProduct.j1 kj12 a1 a2 t862 t865 t874 (t877 != t865) a0_0 l0_1 l0_2) else (laws_FnExactExpandProduct.j1 kj12 a1 a2 t862 t865 t874 true a0_0 l0_1 l0_2))))) else (some false))) = some r := H
     have A37 := Aside0.mk A370
     clear A370
     replace H := Option.bind_eq_some_iff.mp H
     obtain ⟨t886, A380, H⟩ := H
     replace H : (if t886 = true then ((laws_markJacobi.f kj12 t866 t867 t870 1).bind fun bt887 => (if bt887.1 < 0 then (laws_FnExactExpandProduct.j1 kj12 a1 a2 t862 t865 t874 true a0_0 l0_1 l0_2) else ((laws_eqInt64S.f kj12 t874 t862).bind fun t890 => (if t890 = true then (laws_FnExactExpandProduct.j1 kj12 a1 a2 t862 t865 t874 (t877 != t865) a0_0 l0_1 l0_2) else (laws_FnExactExpandProduct.j1 kj12 a1 a2 t862 t865 t874 true a0_0 l0_1 l0_2))))) else (some false)) = some r := H
     have A38 := Aside0.mk A380
     clear A380
     by_cases c39 : t886 = true
     ·subst c39
      have H1 : ((laws_markJacobi.f kj12 t866 t867 t870 1).bind fun bt887 => (if bt887.1 < 0 then (laws_FnExactExpandProduct.j1 kj12 a1 a2 t862 t865 t874 true a0_0 l0_1 l0_2) else ((laws_eqInt64S.f kj12 t874 t862).bind fun t890 => (if t890 = true then (laws_FnExactExpandProduct.j1 kj12 a1 a2 t862 t865 t874 (t877 != t865) a0_0 l0_1 l0_2) else (laws_FnExactExpandProduct.j1 kj12 a1 a2 t862 t865 t874 true a0_0 l0_1 l0_2))))) = some r := by rw [if_pos rfl] at H; exact H
      clear H
      have H := H1
      clear H1
      replace H := Option.bind_eq_some_iff.mp H
      obtain ⟨⟨t887, t888, t889⟩, A400, H⟩ := H
      replace H : (if t887 < 0 then (laws_FnExactExpandProduct.j1 kj12 a1 a2 t862 t865 t874 true a0_0 l0_1 l0_2) else ((laws_eqInt64S.f kj12 t874 t862).bind fun t890 => (if t890 = true then (laws_FnExactExpandProduct.j1 kj12 a1 a2 t862 t865 t874 (t877 != t865) a0_0 l0_1 l0_2) else (laws_FnExactExpandProduct.j1 kj12 a1 a2 t862 t865 t874 true a0_0 l0_1 l0_2)))) = some r := H
      have A40 := Aside0.mk A400
      clear A400
      have HC41 := Aside0.mk H
      clear H
      try go_wp2
      have n0_ := Aside0.mk (Kd.R_drew HO_8.out)
      have n1_ := Aside0.mk (Kd.R_drew HO_11.out)
      have n2_ := Aside0.mk (Kd.R_drew HO_874001.out)
      have n3_ := Aside0.mk (Kd.R_drew HO_874002.out)
      have n4_ := Aside0.mk (blk_drew BK853.out)
      have n5_ := Aside0.mk (blk_drew BK873.out)
      have n6_ := Aside0.mk (below_drew1 HB.out)
      clear HO_8
      clear HO_11
      clear HO_874001
      clear HO_874002
      clear BK853
      clear BK873
      clear HB
      have HO_8 := n0_
      have HO_11 := n1_
      have HO_874001 := n2_
      have HO_874002 := n3_
      have BK853 := n4_
      have BK873 := n5_
      have HB := n6_
      clear n0_ n1_ n2_ n3_ n4_ n5_ n6_
      refine start_ (n := 5) (S := fun w' => w'.cell? ⟨gb873, 0, none⟩ = some (.int .i64 t866) ∧ w'.cell? ⟨gb873, 1, none⟩ = some (.slice Ao27 t867.length co27) ∧ w'.cell? ⟨gb873, 2, none⟩ = some (.slice Ao28 t870.length co28) ∧ w'.cell? ⟨gb853, 0, none⟩ = some (.int .i64 a0_0) ∧ w'.cell? ⟨gb853, 1, none⟩ = some (.slice A0_1 l0_1.length c0_1) ∧ w'.cell? ⟨gb853, 2, none⟩ = some (.slice A0_2 l0_2.length c0_2)) (ds := []) #[false, false, false, false, false] (by kernel_rfl) rfl rfl ⟨(blk_cell BK873.out 0).trans rfl, (blk_cell BK873.out 1).trans rfl, (blk_cell BK873.out 2).trans rfl, (blk_cell BK853.out 0).trans rfl, (blk_cell BK853.out 1).trans rfl, (blk_cell BK853.out 2).trans rfl⟩ (fun hHeld => ?_)
      generalize wc.drew = w42 at HO_8 HO_11 HO_874001 HO_874002 BK853 BK873 HB hHeld ⊢
      refine Zt6 0 (some 49) hHeld (h := ?_)
      refine Zt6 1 (some 50) hHeld (h := ?_)
      refine one_ (i := 2) (N := some 51) #[true, true, true, false, false] rfl rfl (by kernel_rfl) (by decide) (fun K hK => ?_)
      refine goes_ Try.func16 (by kernel_rfl) rfl #[.agg #[.int .i64 a0_0, .slice A0_1 l0_1.length c0_1, .slice A0_2 l0_2.length c0_2]] (by rfl) rfl rfl ZA ?_
      with_reducible refine (laws_toJacobi.calls kj12 a0_0 _ _ l0_1 _ _ l0_2 t879 t880 t883 _ ?side1 ?side2 ?side3 ?side4 A37.out).mono ?_
      (case side1 => exact ZC HR0_1)
      (case side2 => exact HC0_1.out)
      (case side3 => exact ZC HR0_2)
      (case side4 => exact HC0_2.out)
      rintro e w43 ⟨v881, v884, rfl, ho0, ho1, hb⟩
      refine ⟨_, rfl, ?_⟩
      have n0_ := Aside0.mk (Kd.R_mono (Kd.R_told (Kd.R_told (Kd.R_old (ZR HO_8) hb) (Kd.R_base ho0)) (Kd.R_base ho1)) (fun _ h_ => h_.1))
      have n1_ := Aside0.mk (Kd.R_mono (Kd.R_told (Kd.R_told (Kd.R_old (ZR HO_11) hb) (Kd.R_base ho0)) (Kd.R_base ho1)) (fun _ h_ => h_.1))
      have n2_ := Aside0.mk (Kd.R_mono (Kd.R_told (Kd.R_told (Kd.R_old (ZR HO_874001) hb) (Kd.R_base ho0)) (Kd.R_base ho1)) (fun _ h_ => h_.1))
      have n3_ := Aside0.mk (Kd.R_mono (Kd.R_told (Kd.R_told (Kd.R_old (ZR HO_874002) hb) (Kd.R_base ho0)) (Kd.R_base ho1)) (fun _ h_ => h_.1))
      have n4_ := Aside0.mk (Kd.R_lower (Kd.R_new' (Kd.R_new' (Kd.R_new' (Kd.R_new' ho0 (Kd.R_lt (ZR HO_8))) (Kd.R_lt (ZR HO_11))) (Kd.R_lt (ZR HO_874001))) (Kd.R_lt (ZR HO_874002))) (below_size ZB))
      have n5_ := Aside0.mk (Kd.R_lower (Kd.R_new' (Kd.R_new' (Kd.R_new' (Kd.R_new' ho1 (Kd.R_lt (ZR HO_8))) (Kd.R_lt (ZR HO_11))) (Kd.R_lt (ZR HO_874001))) (Kd.R_lt (ZR HO_874002))) (below_size ZB))
      have n6_ := ZL BK853 hb
      have n7_ := ZL BK873 hb
      have n8_ := Aside0.mk (below_step ZB hb)
      clear HO_8
      clear HO_11
      clear HO_874001
      clear HO_874002
      clear BK853
      clear BK873
      clear HB
      have HO_8 := n0_
      have HO_11 := n1_
      have HO_874001 := n2_
      have HO_874002 := n3_
      have HO882 := n4_
      have HO885 := n5_
      have BK853 := n6_
      have BK873 := n7_
      have HB := n8_
      clear n0_ n1_ n2_ n3_ n4_ n5_ n6_ n7_ n8_
      (try clear hb)
      (try clear hb2)
      (try clear hk)
      (try clear hi)
      (try clear ho0)
      (try clear ho1)
      obtain ⟨Ao44, co44, eo44⟩ := Kd.R_slice HO882.out
      (first | subst eo44 | (injection eo44 with f1_ f2_ f3_; have f4_ := f1_.symm; have f5_ := f3_.symm; clear f1_ f2_ f3_; subst f4_; subst f5_))
      obtain ⟨Ao45, co45, eo45⟩ := Kd.R_slice HO885.out
      (first | subst eo45 | (injection eo45 with f1_ f2_ f3_; have f4_ := f1_.symm; have f5_ := f3_.symm; clear f1_ f2_ f3_; subst f4_; subst f5_))
      refine hK.out _ _ ⟨(blk_cell BK873.out 0).trans rfl, (blk_cell BK873.out 1).trans rfl, (blk_cell BK873.out 2).trans rfl, (blk_cell BK853.out 0).trans rfl, (blk_cell BK853.out 1).trans rfl, (blk_cell BK853.out 2).trans rfl⟩ (fun hHeld => ?_)
      clear hK K
      refine norm_ (a' := ?_) ?_ ?_
      rotate_left
      ·show Act.put _ (some 51) _ = _
       simp only [Act.put, List.setIfInBounds_toArray, List.set_cons_zero, List.set_cons_succ, i64_w, i32_w]
       rfl
      refine one_ (i := 3) (N := some 52) #[true, true, true, true, false] rfl rfl (by kernel_rfl) (by decide) (fun K hK => ?_)
      refine goes_ Try.func19 (by kernel_rfl) rfl #[.agg #[.int .i64 t866, .slice Ao27 t867.length co27, .slice Ao28 t870.length co28], .agg #[.int .i64 t879, .slice Ao44 t880.length co44, .slice Ao45 t883.length co45]] (by rfl) rfl rfl ZA ?_
      with_reducible refine (laws_eqJacobi.calls kj12 t866 _ _ t867 _ _ t870 t879 _ _ t880 _ _ t883 true _ ?side1 ?side2 ?side3 ?side4 ?side5 ?side6 ?side7 ?side8 A38.out).mono ?_
      (case side1 => repeat (first | exact (Kd.R_reads' HO_874001.out).2.2 | (with_reducible refine Kd.C_alloc ?_ _) | (with_reducible refine Kd.C_drewN ?_ _) | (with_reducible refine Kd.C_drew ?_)))
      (case side2 => exact (Kd.R_reads' HO_874001.out).2.1)
      (case side3 => repeat (first | exact (Kd.R_reads' HO_874002.out).2.2 | (with_reducible refine Kd.C_alloc ?_ _) | (with_reducible refine Kd.C_drewN ?_ _) | (with_reducible refine Kd.C_drew ?_)))
      (case side4 => exact (Kd.R_reads' HO_874002.out).2.1)
      (case side5 => repeat (first | exact (Kd.R_reads' HO882.out).2.2 | (with_reducible refine Kd.C_alloc ?_ _) | (with_reducible refine Kd.C_drewN ?_ _) | (with_reducible refine Kd.C_drew ?_)))
      (case side6 => exact (Kd.R_reads' HO882.out).2.1)
      (case side7 => repeat (first | exact (Kd.R_reads' HO885.out).2.2 | (with_reducible refine Kd.C_alloc ?_ _) | (with_reducible refine Kd.C_drewN ?_ _) | (with_reducible refine Kd.C_drew ?_)))
      (case side8 => exact (Kd.R_reads' HO885.out).2.1)
      rintro e w46 ⟨rfl, hb⟩
      refine ⟨_, rfl, ?_⟩
      have n0_ := Aside0.mk (Kd.R_below (ZR HO_8) hb)
      have n1_ := Aside0.mk (Kd.R_below (ZR HO_11) hb)
      have n2_ := Aside0.mk (Kd.R_below (ZR HO_874001) hb)
      have n3_ := Aside0.mk (Kd.R_below (ZR HO_874002) hb)
      have n4_ := Aside0.mk (Kd.R_below (ZR HO882) hb)
      have n5_ := Aside0.mk (Kd.R_below (ZR HO885) hb)
      have n6_ := ZL BK853 hb
      have n7_ := ZL BK873 hb
      have n8_ := Aside0.mk (below_step ZB hb)
      clear HO_8
      clear HO_11
      clear HO_874001
      clear HO_874002
      clear HO882
      clear HO885
      clear BK853
      clear BK873
      clear HB
      have HO_8 := n0_
      have HO_11 := n1_
      have HO_874001 := n2_
      have HO_874002 := n3_
      have HO882 := n4_
      have HO885 := n5_
      have BK853 := n6_
      have BK873 := n7_
      have HB := n8_
      clear n0_ n1_ n2_ n3_ n4_ n5_ n6_ n7_ n8_
      (try clear hb)
      (try clear hb2)
      (try clear hk)
      (try clear hi)
      refine hK.out _ _ ⟨(blk_cell BK873.out 0).trans rfl, (blk_cell BK873.out 1).trans rfl, (blk_cell BK873.out 2).trans rfl, (blk_cell BK853.out 0).trans rfl, (blk_cell BK853.out 1).trans rfl, (blk_cell BK853.out 2).trans rfl⟩ (fun hHeld => ?_)
      clear hK K
      refine norm_ (a' := ?_) ?_ ?_
      rotate_left
      ·show Act.put _ (some 52) _ = _
       simp only [Act.put, List.setIfInBounds_toArray, List.set_cons_zero, List.set_cons_succ, i64_w, i32_w]
       rfl
      refine Zp 4 (some 53) (h := ?_)
      refine done_ (by kernel_rfl) ?_
      have hnb47 := NB873_853.out
      have hnc47 := NB853_873.out
      obtain ⟨hcz48_0, hcz48_1, hcz48_2, hfz48_0, hfz48_1, hfz48_2⟩ := ZD3 BK873
      go_upto_region 14 with (first | ((with_reducible refine gate_callee (f := 20) rfl ?_); refine goesL_ (some 56) rfl rfl Try.func20 (by kernel_rfl) rfl #[.agg #[.int .i64 t866, .slice Ao27 t867.length co27, .slice Ao28 t870.length co28], .int .i64 1] rfl ZA ?_; (with_reducible refine (laws_markJacobi.calls kj12 t866 (fun k_ => some k_ = (.slice Ao27 t867.length co27 : Value).ownBlock) (.slice Ao27 t867.length co27) t867 (fun k_ => some k_ = (.slice Ao28 t870.length co28 : Value).ownBlock) (.slice Ao28 t870.length co28) t870 1 t887 t888 t889 w _ ?side1 ?side2 ?side3 ?side4 ?side5 A40.out).mono ?_); (case side1 => repeat (first | (with_reducible first | exact HB.out | apply below_alloc | apply pw_below_drewN | apply below_drew1 | refine below_set ?_ GE853.out | refine below_set ?_ GE873.out) | exact HB.out)); (case side2 => exact Kd.R_tight rfl HO_874001.out); (case side3 => exact fun k_ e_ => (HO_874001.out.1 k_ e_.symm).1.1.2.2); (case side4 => exact Kd.R_tight rfl HO_874002.out); (case side5 => exact fun k_ e_ => (HO_874002.out.1 k_ e_.symm).1.1.2.2); rintro e w49 ⟨rfl, hy0, hy1, hb, hkp⟩; refine ⟨_, rfl, ?_⟩; have n0_ := Aside0.mk (Kd.R_mono (ok' := fun k_ => some k_ ≠ (v875 : Value).ownBlock ∧ some k_ ≠ (.slice Ao27 t867.length co27 : Value).ownBlock ∧ some k_ ≠ (.slice Ao28 t870.length co28 : Value).ownBlock ∧ some k_ ≠ (.slice Ao44 t880.length co44 : Value).ownBlock ∧ some k_ ≠ (.slice Ao45 t883.length co45 : Value).ownBlock) (Kd.R_keptB (HO_8.out) hkp (fun k_ hk_ hs_ => Or.elim hs_ (fun e_ => (hk_.1.1.2.1) e_) (fun e_ => (hk_.1.1.2.2) e_))) (fun k_ hk_ => ⟨hk_.1.1.1.1, hk_.1.1.1.2.1, hk_.1.1.1.2.2, hk_.1.1.2, hk_.1.2⟩)); have n1_ := Aside0.mk (Kd.R_mono (ok' := fun k_ => some k_ ≠ (v863 : Value).ownBlock ∧ some k_ ≠ (.slice Ao27 t867.length co27 : Value).ownBlock ∧ some k_ ≠ (.slice Ao28 t870.length co28 : Value).ownBlock ∧ some k_ ≠ (.slice Ao44 t880.length co44 : Value).ownBlock ∧ some k_ ≠ (.slice Ao45 t883.length co45 : Value).ownBlock) (Kd.R_keptB (HO_11.out) hkp (fun k_ hk_ hs_ => Or.elim hs_ (fun e_ => (hk_.1.1.2.1) e_) (fun e_ => (hk_.1.1.2.2) e_))) (fun k_ hk_ => ⟨hk_.1.1.1.1, hk_.1.1.1.2.1, hk_.1.1.1.2.2, hk_.1.1.2, hk_.1.2⟩)); have n2_ := Aside0.mk (Kd.R_reok rfl hy0 (fun k_ e_ => HO_874001.out.1 k_ e_)); have n3_ := Aside0.mk (Kd.R_reok rfl hy1 (fun k_ e_ => HO_874002.out.1 k_ e_)); have n4_ := Aside0.mk (blk_kept (ZK BK853) hkp (fun hs_ => Or.elim hs_ (fun e_ => (fun e_ => (Kd.R_ne HO_874001.out BK853.out (by decide)) e_) e_) (fun e_ => (fun e_ => (Kd.R_ne HO_874002.out BK853.out (by decide)) e_) e_))); have n5_ := Aside0.mk (blk_kept (ZK BK873) hkp (fun hs_ => Or.elim hs_ (fun e_ => (fun e_ => (Kd.R_ne HO_874001.out BK873.out (by decide)) e_) e_) (fun e_ => (fun e_ => (Kd.R_ne HO_874002.out BK873.out (by decide)) e_) e_))); have n6_ := Aside0.mk (Kd.R_mono (ok' := fun k_ => some k_ ≠ (v863 : Value).ownBlock ∧ some k_ ≠ (v875 : Value).ownBlock ∧ some k_ ≠ (.slice Ao27 t867.length co27 : Value).ownBlock ∧ some k_ ≠ (.slice Ao28 t870.length co28 : Value).ownBlock ∧ some k_ ≠ (.slice Ao45 t883.length co45 : Value).ownBlock) (Kd.R_keptB (HO882.out) hkp (fun k_ hk_ hs_ => Or.elim hs_ (fun e_ => (hk_.1.2) e_) (fun e_ => (hk_.2) e_))) (fun k_ hk_ => ⟨hk_.1.1.1.1.2, hk_.1.1.1.2, hk_.1.1.2, hk_.1.2, hk_.1.1.1.1.1⟩)); have n7_ := Aside0.mk (Kd.R_mono (ok' := fun k_ => some k_ ≠ (v863 : Value).ownBlock ∧ some k_ ≠ (v875 : Value).ownBlock ∧ some k_ ≠ (.slice Ao27 t867.length co27 : Value).ownBlock ∧ some k_ ≠ (.slice Ao28 t870.length co28 : Value).ownBlock ∧ some k_ ≠ (.slice Ao44 t880.length co44 : Value).ownBlock) (Kd.R_keptB (HO885.out) hkp (fun k_ hk_ hs_ => Or.elim hs_ (fun e_ => (hk_.1.2) e_) (fun e_ => (hk_.2) e_))) (fun k_ hk_ => ⟨hk_.1.1.1.1.2, hk_.1.1.1.2, hk_.1.1.2, hk_.1.2, hk_.1.1.1.1.1⟩)); have n8_ := Aside0.mk (hb); clear HO_8; clear HO_11; clear HO_874001; clear HO_874002; clear BK853; clear BK873; clear HO882; clear HO885; clear HB; have HO_8 := n0_; have HO_11 := n1_; have HO_874001 := n2_; have HO_874002 := n3_; have BK853 := n4_; have BK873 := n5_; have HO882 := n6_; have HO885 := n7_; have HB := n8_; clear n0_ n1_ n2_ n3_ n4_ n5_ n6_ n7_ n8_; (try clear hb); (try clear hkp); (try clear hy0); (try clear hy1)))
      (try simp only [Act.put, List.setIfInBounds_toArray, List.set_cons_zero, List.set_cons_succ])
      go_cut [69] (fun v69 wc => ∃ (kq : Nat) (x69_40 : Bool), v69 = .bool x69_40 ∧ Aside0 (laws_FnExactExpandProduct.j1 kq a1 a2 t862 t865 t874 x69_40 a0_0 l0_1 l0_2 = some r) ∧ Aside0 (kq ≤ kj12) ∧ Aside0 (Kd.R (Kd.int .i64) 2 wc w.heap.size (fun k_ => some k_ ≠ (v875 : Value).ownBlock ∧ some k_ ≠ ((.slice Ao27 t867.length co27) : Value).ownBlock ∧ some k_ ≠ ((.slice Ao28 t870.length co28) : Value).ownBlock) v863 t862) ∧ Aside0 (Kd.R (Kd.int .i64) 2 wc w.heap.size (fun k_ => some k_ ≠ (v863 : Value).ownBlock ∧ some k_ ≠ ((.slice Ao27 t867.length co27) : Value).ownBlock ∧ some k_ ≠ ((.slice Ao28 t870.length co28) : Value).ownBlock) v875 t874) ∧ Aside0 (Kd.R (Kd.int .i64) 2 wc w.heap.size (fun k_ => some k_ ≠ (v863 : Value).ownBlock ∧ some k_ ≠ (v875 : Value).ownBlock ∧ some k_ ≠ ((.slice Ao28 t870.length co28) : Value).ownBlock) (.slice Ao27 t867.length co27) t888) ∧ Aside0 (Kd.R (Kd.int .i64) 2 wc w.heap.size (fun k_ => some k_ ≠ (v863 : Value).ownBlock ∧ some k_ ≠ (v875 : Value).ownBlock ∧ some k_ ≠ ((.slice Ao27 t867.length co27) : Value).ownBlock) (.slice Ao28 t870.length co28) t889) ∧ Aside0 (wc.heap[gb853]? = some (.cells #[.int .i64 a0_0, (.slice A0_1 l0_1.length c0_1), (.slice A0_2 l0_2.length c0_2)] 24 (0, 0))) ∧ Aside0 (wc.heap[gb873]? = some (.cells #[.int .i64 t866, (.slice Ao27 t867.length co27), (.slice Ao28 t870.length co28)] 29 (0, 0))) ∧ Aside0 (Below w.heap.size w wc))
      case first =>
       have H := HC41.out
       clear HC41
       by_cases c50 : t887 < 0
       ·rw [if_pos c50] at H
        have c50b0 : decide (t887 < 0) = true := decide_eq_true c50
        clear c50
        (first | rw [c50b0] | (simp only [i64_w, i32_w]; rw [c50b0]) | skip)
        have H' := Aside0.mk H
        clear H
        go_wp2
        go_meet
        case rel => exact ⟨_, (true), (by first | rfl | (simp; done) | (simp [*]; done)), H', ⟨by have := HJ12.out; first | omega | exact Nat.le_refl _⟩, ⟨by refine ZQ ?_; exact Kd.R_mono HO_8.out (fun _ hk => (And.intro (hk.1) ((And.intro (hk.2.1) (hk.2.2.1)))))⟩, ⟨by refine ZQ ?_; exact Kd.R_mono HO_11.out (fun _ hk => (And.intro (hk.1) ((And.intro (hk.2.1) (hk.2.2.1)))))⟩, ⟨by refine ZQ ?_; exact Kd.R_mono HO_874001.out (fun _ hk => (And.intro (hk.1.1.1) ((And.intro (hk.1.1.2.1) (hk.1.1.2.2)))))⟩, ⟨by refine ZQ ?_; exact Kd.R_mono HO_874002.out (fun _ hk => (And.intro (hk.1.1.1) ((And.intro (hk.1.1.2.1) (hk.1.1.2.2)))))⟩, ⟨ZK BK853⟩, ⟨ZK BK873⟩, ⟨ZB⟩⟩
       ·rw [if_neg c50] at H
        have c50b0 : decide (t887 < 0) = false := decide_eq_false c50
        clear c50
        (first | rw [c50b0] | (simp only [i64_w, i32_w]; rw [c50b0]) | skip)
        replace H := Option.bind_eq_some_iff.mp H
        obtain ⟨t890, A510, H⟩ := H
        replace H : (if t890 = true then (laws_FnExactExpandProduct.j1 kj12 a1 a2 t862 t865 t874 (t877 != t865) a0_0 l0_1 l0_2) else (laws_FnExactExpandProduct.j1 kj12 a1 a2 t862 t865 t874 true a0_0 l0_1 l0_2)) = some r := H
        have A51 := Aside0.mk A510
        clear A510
        by_cases c52 : t890 = true
        ·subst c52
         have H1 : (laws_FnExactExpandProduct.j1 kj12 a1 a2 t862 t865 t874 (t877 != t865) a0_0 l0_1 l0_2) = some r := by rw [if_pos rfl] at H; exact H
         clear H
         have H := H1
         clear H1
         have H' := Aside0.mk H
         clear H
         obtain ⟨Ao53, co53, eo53⟩ := Kd.R_slice HO_11.out
         subst eo53
         obtain ⟨Ao54, co54, eo54⟩ := Kd.R_slice HO_8.out
         subst eo54
         go_wp2_with (first | (go_at_call 29; (with_reducible refine (laws_eqInt64S.calls kj12 _ _ t874 _ _ t862 true _ ?side1 ?side2 ?side3 ?side4 A51.out).mono ?_); (case side1 => repeat (first | exact (Kd.R_reads' HO_11.out).2.2 | (with_reducible refine Kd.C_alloc ?_ _) | (with_reducible refine Kd.C_drewN ?_ _) | (with_reducible refine Kd.C_drew ?_))); (case side2 => exact (Kd.R_reads' HO_11.out).2.1); (case side3 => repeat (first | exact (Kd.R_reads' HO_8.out).2.2 | (with_reducible refine Kd.C_alloc ?_ _) | (with_reducible refine Kd.C_drewN ?_ _) | (with_reducible refine Kd.C_drew ?_))); (case side4 => exact (Kd.R_reads' HO_8.out).2.1); rintro e w' ⟨rfl, ⟨nd, rfl⟩⟩))
         go_meet
         case rel => exact ⟨_, ((t877 != t865)), (by first | rfl | (simp; done) | (simp [*]; done)), H', ⟨by have := HJ12.out; first | omega | exact Nat.le_refl _⟩, ⟨by refine ZQ ?_; exact Kd.R_mono HO_8.out (fun _ hk => (And.intro (hk.1) ((And.intro (hk.2.1) (hk.2.2.1)))))⟩, ⟨by refine ZQ ?_; exact Kd.R_mono HO_11.out (fun _ hk => (And.intro (hk.1) ((And.intro (hk.2.1) (hk.2.2.1)))))⟩, ⟨by refine ZQ ?_; exact Kd.R_mono HO_874001.out (fun _ hk => (And.intro (hk.1.1.1) ((And.intro (hk.1.1.2.1) (hk.1.1.2.2)))))⟩, ⟨by refine ZQ ?_; exact Kd.R_mono HO_874002.out (fun _ hk => (And.intro (hk.1.1.1) ((And.intro (hk.1.1.2.1) (hk.1.1.2.2)))))⟩, ⟨ZK BK853⟩, ⟨ZK BK873⟩, ⟨ZB⟩⟩
        ·replace c52 := Bool.eq_false_iff.mpr c52
         subst c52
         have H1 : (laws_FnExactExpandProduct.j1 kj12 a1 a2 t862 t865 t874 true a0_0 l0_1 l0_2) = some r := by rw [if_neg (show ¬ (false = true) by decide)] at H; exact H
         clear H
         have H := H1
         clear H1
         have H' := Aside0.mk H
         clear H
         obtain ⟨Ao55, co55, eo55⟩ := Kd.R_slice HO_11.out
         subst eo55
         obtain ⟨Ao56, co56, eo56⟩ := Kd.R_slice HO_8.out
         subst eo56
         go_wp2_with (first | (go_at_call 29; (with_reducible refine (laws_eqInt64S.calls kj12 _ _ t874 _ _ t862 false _ ?side1 ?side2 ?side3 ?side4 A51.out).mono ?_); (case side1 => repeat (first | exact (Kd.R_reads' HO_11.out).2.2 | (with_reducible refine Kd.C_alloc ?_ _) | (with_reducible refine Kd.C_drewN ?_ _) | (with_reducible refine Kd.C_drew ?_))); (case side2 => exact (Kd.R_reads' HO_11.out).2.1); (case side3 => repeat (first | exact (Kd.R_reads' HO_8.out).2.2 | (with_reducible refine Kd.C_alloc ?_ _) | (with_reducible refine Kd.C_drewN ?_ _) | (with_reducible refine Kd.C_drew ?_))); (case side4 => exact (Kd.R_reads' HO_8.out).2.1); rintro e w' ⟨rfl, ⟨nd, rfl⟩⟩))
         go_meet
         case rel => exact ⟨_, (true), (by first | rfl | (simp; done) | (simp [*]; done)), H', ⟨by have := HJ12.out; first | omega | exact Nat.le_refl _⟩, ⟨by refine ZQ ?_; exact Kd.R_mono HO_8.out (fun _ hk => (And.intro (hk.1) ((And.intro (hk.2.1) (hk.2.2.1)))))⟩, ⟨by refine ZQ ?_; exact Kd.R_mono HO_11.out (fun _ hk => (And.intro (hk.1) ((And.intro (hk.2.1) (hk.2.2.1)))))⟩, ⟨by refine ZQ ?_; exact Kd.R_mono HO_874001.out (fun _ hk => (And.intro (hk.1.1.1) ((And.intro (hk.1.1.2.1) (hk.1.1.2.2)))))⟩, ⟨by refine ZQ ?_; exact Kd.R_mono HO_874002.out (fun _ hk => (And.intro (hk.1.1.1) ((And.intro (hk.1.1.2.1) (hk.1.1.2.2)))))⟩, ⟨ZK BK853⟩, ⟨ZK BK873⟩, ⟨ZB⟩⟩
      case rest =>
       clear HC41
       try clear c1
       try clear c2
       try clear p2
       try clear c3
       try clear c4
       try clear c5
       try clear c5b0
       try clear c8
       try clear c14
       try clear c16
       try clear c19
       try clear c20
       try clear c25
       try clear c29
       try clear c31
       try clear c36
       try clear c37
       try clear c39
       try clear c47
       try clear c50
       try clear c50b0
       try clear c52
       try clear hcz15_0
       try clear hcz15_1
       try clear hcz15_2
       try clear hcz17_0
       try clear hcz17_1
       try clear hcz17_2
       try clear hcz22_0
       try clear hcz22_1
       try clear hcz22_2
       try clear hcz26_0
       try clear hcz26_1
       try clear hcz26_2
       try clear hcz48_0
       try clear hcz48_1
       try clear hcz48_2
       try clear hcz7_0
       try clear hcz7_1
       try clear hcz7_2
       try clear hfz15_0
       try clear hfz15_1
       try clear hfz15_2
       try clear hfz17_0
       try clear hfz17_1
       try clear hfz17_2
       try clear hfz22_0
       try clear hfz22_1
       try clear hfz22_2
       try clear hfz26_0
       try clear hfz26_1
       try clear hfz26_2
       try clear hfz48_0
       try clear hfz48_1
       try clear hfz48_2
       try clear hfz7_0
       try clear hfz7_1
       try clear hfz7_2
       try clear p2
       obtain ⟨kq, x69_40, rfl, HA, HJ40, HO_8, HO_11, HO_874001, HO_874002, BK853, BK873, HB⟩ := hcut
       have hl874001_40 := (Kd.R_reads' HO_874001.out).1
       rw [hl874001_40] at HO_874001
       (try simp only [hl874001_40])
       (try simp only [hl874001_40] at BK853)
       (try simp only [hl874001_40] at BK873)
       (try simp only [hl874001_40] at HO_8)
       (try simp only [hl874001_40] at HO_11)
       (try simp only [hl874001_40] at HO_874002)
       have hl874002_40 := (Kd.R_reads' HO_874002.out).1
       rw [hl874002_40] at HO_874002
       (try simp only [hl874002_40])
       (try simp only [hl874002_40] at BK853)
       (try simp only [hl874002_40] at BK873)
       (try simp only [hl874002_40] at HO_8)
       (try simp only [hl874002_40] at HO_11)
       (try simp only [hl874002_40] at HO_874001)
       cases kq with
       | zero => exact absurd HA.out (by simp [laws_FnExactExpandProduct.j1])
       | succ kj40 =>
        have H := HA.out
        clear HA
        simp only [laws_FnExactExpandProduct.j1] at H
        by_cases c57 : x69_40 = true
        ·subst c57
         have H1 : (some false) = some r := by rw [if_pos rfl] at H; exact H
         clear H
         have H := H1
         clear H1
         exact absurd (H.trans (congrArg some hT.out)) (by simp)
        ·replace c57 := Bool.eq_false_iff.mpr c57
         subst c57
         have H1 : ((laws_markInt64S.f kj40 t874 1).bind fun bt891 => ((laws_heldInt64S.f kj40 bt891.2 1).bind fun t893 => (if t893 < 0 then (some false) else (if t893 = bt891.1 then ((laws_toJacobi.f kj40 a0_0 l0_1 l0_2).bind fun bt894 => ((impl_ExpandProduct.f kj40 bt894.1 bt894.2.1 bt894.2.2 a1 a2).bind fun bt901 => ((laws_eqInt64S.f kj40 bt901.1 t862).bind fun t905 => (if t905 = true then (laws_FnExactExpandProduct.j2 kj40 bt891.2 bt891.1 (bt901.2 != t865)) else (laws_FnExactExpandProduct.j2 kj40 bt891.2 bt891.1 true))))) else (some false))))) = some r := by rw [if_neg (show ¬ (false = true) by decide)] at H; exact H
         clear H
         have H := H1
         clear H1
         replace H := Option.bind_eq_some_iff.mp H
         obtain ⟨⟨t891, t892⟩, A580, H⟩ := H
         replace H : ((laws_heldInt64S.f kj40 t892 1).bind fun t893 => (if t893 < 0 then (some false) else (if t893 = t891 then ((laws_toJacobi.f kj40 a0_0 l0_1 l0_2).bind fun bt894 => ((impl_ExpandProduct.f kj40 bt894.1 bt894.2.1 bt894.2.2 a1 a2).bind fun bt901 => ((laws_eqInt64S.f kj40 bt901.1 t862).bind fun t905 => (if t905 = true then (laws_FnExactExpandProduct.j2 kj40 t892 t891 (bt901.2 != t865)) else (laws_FnExactExpandProduct.j2 kj40 t892 t891 true))))) else (some false)))) = some r := H
         have A58 := Aside0.mk A580
         clear A580
         replace H := Option.bind_eq_some_iff.mp H
         obtain ⟨t893, A590, H⟩ := H
         replace H : (if t893 < 0 then (some false) else (if t893 = t891 then ((laws_toJacobi.f kj40 a0_0 l0_1 l0_2).bind fun bt894 => ((impl_ExpandProduct.f kj40 bt894.1 bt894.2.1 bt894.2.2 a1 a2).bind fun bt901 => ((laws_eqInt64S.f kj40 bt901.1 t862).bind fun t905 => (if t905 = true then (laws_FnExactExpandProduct.j2 kj40 t892 t891 (bt901.2 != t865)) else (laws_FnExactExpandProduct.j2 kj40 t892 t891 true))))) else (some false))) = some r := H
         have A59 := Aside0.mk A590
         clear A590
         by_cases c60 : t893 < 0
         ·rw [if_pos c60] at H
          have c60b0 : decide (t893 < 0) = true := decide_eq_true c60
          clear c60
          exact absurd (H.trans (congrArg some hT.out)) (by simp)
         ·rw [if_neg c60] at H
          have c60b0 : decide (t893 < 0) = false := decide_eq_false c60
          clear c60
          by_cases c61 : t893 = t891
          ·rw [if_pos c61] at H
           have c61b0 : (t893 == t891) = true := beq_iff_eq.mpr c61
           have c61b1 : (t893 != t891) = false := bne_eq_false_iff_eq.mpr c61
           clear c61
           replace H := Option.bind_eq_some_iff.mp H
           obtain ⟨⟨t894, t895, t898⟩, A620, H⟩ := H
           replace H : ((impl_ExpandProduct.f kj40 t894 t895 t898 a1 a2).bind fun bt901 => ((laws_eqInt64S.f kj40 bt901.1 t862).bind fun t905 => (if t905 = true then (laws_FnExactExpandProduct.j2 kj40 t892 t891 (bt901.2 != t865)) else (laws_FnExactExpandProduct.j2 kj40 t892 t891 true)))) = some r := H
           have A62 := Aside0.mk A620
           clear A620
           replace H := Option.bind_eq_some_iff.mp H
           obtain ⟨⟨t901, t904⟩, A630, H⟩ := H
           replace H : ((laws_eqInt64S.f kj40 t901 t862).bind fun t905 => (if t905 = true then (laws_FnExactExpandProduct.j2 kj40 t892 t891 (t904 != t865)) else (laws_FnExactExpandProduct.j2 kj40 t892 t891 true))) = some r := H
           have A63 := Aside0.mk A630
           clear A630
           have HC64 := Aside0.mk H
           clear H
           obtain ⟨Ao65, co65, eo65⟩ := Kd.R_slice HO_11.out
           subst eo65
           go_upto_region 25 with (first | ((with_reducible refine gate_callee (f := 30) rfl ?_); refine goesL_ (some 72) rfl rfl Try.func30 (by kernel_rfl) rfl #[.slice Ao65 t874.length co65, .int .i64 1] rfl ZA ?_; (with_reducible refine (laws_markInt64S.calls kj40 (fun k_ => some k_ = (.slice Ao65 t874.length co65 : Value).ownBlock) (.slice Ao65 t874.length co65) t874 1 t891 t892 w _ ?side1 ?side2 A58.out).mono ?_); (case side1 => repeat (first | (with_reducible first | exact HB.out | apply below_alloc | apply pw_below_drewN | apply below_drew1 | refine below_set ?_ GE853.out | refine below_set ?_ GE873.out) | exact HB.out)); (case side2 => exact Kd.R_tight rfl HO_11.out); rintro e w66 ⟨rfl, hy0, hb, hkp⟩; refine ⟨_, rfl, ?_⟩; have n0_ := Aside0.mk (Kd.R_mono (ok' := fun k_ => some k_ ≠ (.slice Ao65 t874.length co65 : Value).ownBlock ∧ some k_ ≠ (.slice Ao27 t888.length co27 : Value).ownBlock ∧ some k_ ≠ (.slice Ao28 t889.length co28 : Value).ownBlock) (Kd.R_keptB (HO_8.out) hkp (fun k_ hk_ hs_ => (hk_.1) hs_)) (fun k_ hk_ => ⟨hk_.1.1, hk_.1.2.1, hk_.1.2.2⟩)); have n1_ := Aside0.mk (Kd.R_reok rfl hy0 (fun k_ e_ => HO_11.out.1 k_ e_)); have n2_ := Aside0.mk (Kd.R_mono (ok' := fun k_ => some k_ ≠ (v863 : Value).ownBlock ∧ some k_ ≠ (.slice Ao65 t874.length co65 : Value).ownBlock ∧ some k_ ≠ (.slice Ao28 t889.length co28 : Value).ownBlock) (Kd.R_keptB (HO_874001.out) hkp (fun k_ hk_ hs_ => (hk_.2.1) hs_)) (fun k_ hk_ => ⟨hk_.1.1, hk_.1.2.1, hk_.1.2.2⟩)); have n3_ := Aside0.mk (Kd.R_mono (ok' := fun k_ => some k_ ≠ (v863 : Value).ownBlock ∧ some k_ ≠ (.slice Ao65 t874.length co65 : Value).ownBlock ∧ some k_ ≠ (.slice Ao27 t888.length co27 : Value).ownBlock) (Kd.R_keptB (HO_874002.out) hkp (fun k_ hk_ hs_ => (hk_.2.1) hs_)) (fun k_ hk_ => ⟨hk_.1.1, hk_.1.2.1, hk_.1.2.2⟩)); have n4_ := Aside0.mk (blk_kept (ZK BK853) hkp (fun hs_ => (fun e_ => (Kd.R_ne HO_11.out BK853.out (by decide)) e_) hs_)); have n5_ := Aside0.mk (blk_kept (ZK BK873) hkp (fun hs_ => (fun e_ => (Kd.R_ne HO_11.out BK873.out (by decide)) e_) hs_)); have n6_ := Aside0.mk (hb); clear HO_8; clear HO_11; clear HO_874001; clear HO_874002; clear BK853; clear BK873; clear HB; have HO_8 := n0_; have HO_11 := n1_; have HO_874001 := n2_; have HO_874002 := n3_; have BK853 := n4_; have BK873 := n5_; have HB := n6_; clear n0_ n1_ n2_ n3_ n4_ n5_ n6_; (try clear hb); (try clear hkp); (try clear hy0)) | ((with_reducible refine gate_callee (f := 31) rfl ?_); refine goesL_ (some 75) rfl rfl Try.func31 (by kernel_rfl) rfl #[.slice Ao65 t892.length co65, .int .i64 1] rfl (by (try simp only [List.map_toArray, List.map_cons, List.map_nil]); first | done | (rw [show t892.length = t874.length from (Kd.R_reads' HO_11.out).1.symm] <;> rfl) | rfl | (simp only [List.length_drop, List.length_take]; rfl)) ?_; (with_reducible refine (laws_heldInt64S.calls kj40 _ _ t892 1 t893 _ ?side1 ?side2 A59.out).mono ?_); (case side1 => repeat (first | exact (Kd.R_reads' HO_11.out).2.2 | (with_reducible refine Kd.C_alloc ?_ _) | (with_reducible refine Kd.C_drewN ?_ _) | (with_reducible refine Kd.C_drew ?_))); (case side2 => rw [show t892.length = t874.length from (Kd.R_reads' HO_11.out).1.symm]; exact (Kd.R_reads' HO_11.out).2.1); rintro e w' ⟨rfl, ⟨nd, rfl⟩⟩; refine ⟨_, rfl, ?_⟩; have hnb67 := NB853_873.out; have hnc67 := NB873_853.out; obtain ⟨hcz68_0, hcz68_1, hcz68_2, hfz68_0, hfz68_1, hfz68_2⟩ := ZD3 BK853) | ((with_reducible refine gate_callee (f := 16) rfl ?_); refine goesL_ (some 83) rfl rfl Try.func16 (by kernel_rfl) rfl #[.agg #[.int .i64 a0_0, .slice A0_1 l0_1.length c0_1, .slice A0_2 l0_2.length c0_2]] rfl ZA ?_; (with_reducible refine (laws_toJacobi.calls kj40 a0_0 _ _ l0_1 _ _ l0_2 t894 t895 t898 _ ?side1 ?side2 ?side3 ?side4 A62.out).mono ?_); (case side1 => exact ZE HR0_1); (case side2 => exact HC0_1.out); (case side3 => exact ZE HR0_2); (case side4 => exact HC0_2.out); rintro e w69 ⟨v896, v899, rfl, ho0, ho1, hb⟩; refine ⟨_, rfl, ?_⟩; have n0_ := Aside0.mk (Kd.R_mono (Kd.R_told (Kd.R_told (Kd.R_old (ZR HO_8) hb) (Kd.R_base ho0)) (Kd.R_base ho1)) (fun _ h_ => h_.1)); have n1_ := Aside0.mk (Kd.R_mono (Kd.R_told (Kd.R_told (Kd.R_old (ZR HO_11) hb) (Kd.R_base ho0)) (Kd.R_base ho1)) (fun _ h_ => h_.1)); have n2_ := Aside0.mk (Kd.R_mono (Kd.R_told (Kd.R_told (Kd.R_old (ZR HO_874001) hb) (Kd.R_base ho0)) (Kd.R_base ho1)) (fun _ h_ => h_.1)); have n3_ := Aside0.mk (Kd.R_mono (Kd.R_told (Kd.R_told (Kd.R_old (ZR HO_874002) hb) (Kd.R_base ho0)) (Kd.R_base ho1)) (fun _ h_ => h_.1)); have n4_ := Aside0.mk (Kd.R_lower (Kd.R_new' (Kd.R_new' (Kd.R_new' (Kd.R_new' ho0 (Kd.R_lt (ZR HO_8))) (Kd.R_lt (ZR HO_11))) (Kd.R_lt (ZR HO_874001))) (Kd.R_lt (ZR HO_874002))) (below_size ZB)); have n5_ := Aside0.mk (Kd.R_lower (Kd.R_new' (Kd.R_new' (Kd.R_new' (Kd.R_new' ho1 (Kd.R_lt (ZR HO_8))) (Kd.R_lt (ZR HO_11))) (Kd.R_lt (ZR HO_874001))) (Kd.R_lt (ZR HO_874002))) (below_size ZB)); have n6_ := ZL BK853 hb; have n7_ := ZL BK873 hb; have n8_ := Aside0.mk (below_step ZB hb); clear HO_8; clear HO_11; clear HO_874001; clear HO_874002; clear BK853; clear BK873; clear HB; have HO_8 := n0_; have HO_11 := n1_; have HO_874001 := n2_; have HO_874002 := n3_; have HO897 := n4_; have HO900 := n5_; have BK853 := n6_; have BK873 := n7_; have HB := n8_; clear n0_ n1_ n2_ n3_ n4_ n5_ n6_ n7_ n8_; (try clear hb); (try clear hb2); (try clear hk); (try clear hi); (try clear ho0); (try clear ho1); obtain ⟨Ao70, co70, eo70⟩ := Kd.R_slice HO897.out; subst eo70; obtain ⟨Ao71, co71, eo71⟩ := Kd.R_slice HO900.out; subst eo71) | ((with_reducible refine gate_callee (f := 37) rfl ?_); refine goesL_ (some 86) rfl rfl Try.func37 (by kernel_rfl) rfl #[.agg #[.int .i64 t894, .slice Ao70 t895.length co70, .slice Ao71 t898.length co71], .int .i64 a1, .int .i64 a2] rfl ZA ?_; (with_reducible refine (impl_ExpandProduct.calls kj40 t894 _ _ t895 _ _ t898 a1 a2 t901 t904 _ ?side1 ?side2 ?side3 ?side4 A63.out).mono ?_); (case side1 => repeat (first | exact (Kd.R_reads' HO897.out).2.2 | (with_reducible refine Kd.C_alloc ?_ _) | (with_reducible refine Kd.C_drewN ?_ _) | (with_reducible refine Kd.C_drew ?_))); (case side2 => exact (Kd.R_reads' HO897.out).2.1); (case side3 => repeat (first | exact (Kd.R_reads' HO900.out).2.2 | (with_reducible refine Kd.C_alloc ?_ _) | (with_reducible refine Kd.C_drewN ?_ _) | (with_reducible refine Kd.C_drew ?_))); (case side4 => exact (Kd.R_reads' HO900.out).2.1); rintro e w72 ⟨v902, rfl, ho0, hb⟩; refine ⟨_, rfl, ?_⟩; have n0_ := Aside0.mk (Kd.R_elder' (ZR HO_8) (Kd.R_base ho0) hb); have n1_ := Aside0.mk (Kd.R_elder' (ZR HO_11) (Kd.R_base ho0) hb); have n2_ := Aside0.mk (Kd.R_elder' (ZR HO_874001) (Kd.R_base ho0) hb); have n3_ := Aside0.mk (Kd.R_elder' (ZR HO_874002) (Kd.R_base ho0) hb); have n4_ := Aside0.mk (Kd.R_elder' (ZR HO897) (Kd.R_base ho0) hb); have n5_ := Aside0.mk (Kd.R_elder' (ZR HO900) (Kd.R_base ho0) hb); have n6_ := Aside0.mk (Kd.R_lower (Kd.R_new' (Kd.R_new' (Kd.R_new' (Kd.R_new' (Kd.R_new' (Kd.R_new' ho0 (Kd.R_lt (ZR HO_8))) (Kd.R_lt (ZR HO_11))) (Kd.R_lt (ZR HO_874001))) (Kd.R_lt (ZR HO_874002))) (Kd.R_lt (ZR HO897))) (Kd.R_lt (ZR HO900))) (below_size ZB)); have n7_ := ZL BK853 hb; have n8_ := ZL BK873 hb; have n9_ := Aside0.mk (below_step ZB hb); clear HO_8; clear HO_11; clear HO_874001; clear HO_874002; clear HO897; clear HO900; clear BK853; clear BK873; clear HB; have HO_8 := n0_; have HO_11 := n1_; have HO_874001 := n2_; have HO_874002 := n3_; have HO897 := n4_; have HO900 := n5_; have HO903 := n6_; have BK853 := n7_; have BK873 := n8_; have HB := n9_; clear n0_ n1_ n2_ n3_ n4_ n5_ n6_ n7_ n8_ n9_; (try clear hb); (try clear hb2); (try clear hk); (try clear hi); (try clear ho0)))
           (try simp only [Act.put, List.setIfInBounds_toArray, List.set_cons_zero, List.set_cons_succ])
           go_cut [97] (fun v97 wc => ∃ (kq : Nat) (x97_63 : Bool), v97 = .bool x97_63 ∧ Aside0 (laws_FnExactExpandProduct.j2 kq t892 t891 x97_63 = some r) ∧ Aside0 (kq ≤ kj40) ∧ Aside0 (Kd.R (Kd.int .i64) 2 wc w.heap.size (fun k_ => some k_ ≠ ((.slice Ao27 t888.length co27) : Value).ownBlock ∧ some k_ ≠ ((.slice Ao28 t889.length co28) : Value).ownBlock) (.slice Ao65 t874.length co65) t892) ∧ Aside0 (Kd.R (Kd.int .i64) 2 wc w.heap.size (fun k_ => some k_ ≠ ((.slice Ao65 t874.length co65) : Value).ownBlock ∧ some k_ ≠ ((.slice Ao28 t889.length co28) : Value).ownBlock) (.slice Ao27 t888.length co27) t888) ∧ Aside0 (Kd.R (Kd.int .i64) 2 wc w.heap.size (fun k_ => some k_ ≠ ((.slice Ao65 t874.length co65) : Value).ownBlock ∧ some k_ ≠ ((.slice Ao27 t888.length co27) : Value).ownBlock) (.slice Ao28 t889.length co28) t889) ∧ Aside0 (wc.heap[gb853]? = some (.cells #[.int .i64 a0_0, (.slice A0_1 l0_1.length c0_1), (.slice A0_2 l0_2.length c0_2)] 24 (0, 0))) ∧ Aside0 (wc.heap[gb873]? = some (.cells #[.int .i64 t866, (.slice Ao27 t888.length co27), (.slice Ao28 t889.length co28)] 29 (0, 0))) ∧ Aside0 (Below w.heap.size w wc))
           case first =>
            have H := HC64.out
            clear HC64
            replace H := Option.bind_eq_some_iff.mp H
            obtain ⟨t905, A730, H⟩ := H
            replace H : (if t905 = true then (laws_FnExactExpandProduct.j2 kj40 t892 t891 (t904 != t865)) else (laws_FnExactExpandProduct.j2 kj40 t892 t891 true)) = some r := H
            have A73 := Aside0.mk A730
            clear A730
            by_cases c74 : t905 = true
            ·subst c74
             have H1 : (laws_FnExactExpandProduct.j2 kj40 t892 t891 (t904 != t865)) = some r := by rw [if_pos rfl] at H; exact H
             clear H
             have H := H1
             clear H1
             have H' := Aside0.mk H
             clear H
             obtain ⟨Ao75, co75, eo75⟩ := Kd.R_slice HO903.out
             subst eo75
             obtain ⟨Ao76, co76, eo76⟩ := Kd.R_slice HO_8.out
             subst eo76
             go_wp2_with (first | ((with_reducible refine gate_callee (f := 29) rfl ?_); refine goesL_ (some 91) rfl rfl Try.func29 (by kernel_rfl) rfl #[.slice Ao75 t901.length co75, .slice Ao76 t862.length co76] rfl ZA ?_; (with_reducible refine (laws_eqInt64S.calls kj40 _ _ t901 _ _ t862 true _ ?side1 ?side2 ?side3 ?side4 A73.out).mono ?_); (case side1 => repeat (first | exact (Kd.R_reads' HO903.out).2.2 | (with_reducible refine Kd.C_alloc ?_ _) | (with_reducible refine Kd.C_drewN ?_ _) | (with_reducible refine Kd.C_drew ?_))); (case side2 => exact (Kd.R_reads' HO903.out).2.1); (case side3 => repeat (first | exact (Kd.R_reads' HO_8.out).2.2 | (with_reducible refine Kd.C_alloc ?_ _) | (with_reducible refine Kd.C_drewN ?_ _) | (with_reducible refine Kd.C_drew ?_))); (case side4 => exact (Kd.R_reads' HO_8.out).2.1); rintro e w' ⟨rfl, ⟨nd, rfl⟩⟩; refine ⟨_, rfl, ?_⟩))
             go_meet
             case rel => exact ⟨_, ((t904 != t865)), (by first | rfl | (simp; done) | (simp [*]; done)), H', ⟨by have := HJ12.out; have := HJ40.out; first | omega | exact Nat.le_refl _⟩, ⟨by (try simp only [hl874001_40]); (try simp only [hl874002_40]); refine ZQ ?_; exact Kd.R_mono HO_11.out (fun _ hk => (And.intro (hk.1.1.1.2.1) (hk.1.1.1.2.2)))⟩, ⟨by (try simp only [hl874001_40]); (try simp only [hl874002_40]); refine ZQ ?_; exact Kd.R_mono HO_874001.out (fun _ hk => (And.intro (hk.1.1.1.2.1) (hk.1.1.1.2.2)))⟩, ⟨by (try simp only [hl874001_40]); (try simp only [hl874002_40]); refine ZQ ?_; exact Kd.R_mono HO_874002.out (fun _ hk => (And.intro (hk.1.1.1.2.1) (hk.1.1.1.2.2)))⟩, ⟨by (try simp only [hl874001_40]); (try simp only [hl874002_40]); refine ZS ?_; exact BK853.out⟩, ⟨by (try simp only [hl874001_40]); (try simp only [hl874002_40]); refine ZS ?_; exact BK873.out⟩, ⟨ZB⟩⟩
            ·replace c74 := Bool.eq_false_iff.mpr c74
             subst c74
             have H1 : (laws_FnExactExpandProduct.j2 kj40 t892 t891 true) = some r := by rw [if_neg (show ¬ (false = true) by decide)] at H; exact H
             clear H
             have H := H1
             clear H1
             have H' := Aside0.mk H
             clear H
             obtain ⟨Ao77, co77, eo77⟩ := Kd.R_slice HO903.out
             subst eo77
             obtain ⟨Ao78, co78, eo78⟩ := Kd.R_slice HO_8.out
             subst eo78
             go_wp2_with (first | ((with_reducible refine gate_callee (f := 29) rfl ?_); refine goesL_ (some 91) rfl rfl Try.func29 (by kernel_rfl) rfl #[.slice Ao77 t901.length co77, .slice Ao78 t862.length co78] rfl ZA ?_; (with_reducible refine (laws_eqInt64S.calls kj40 _ _ t901 _ _ t862 false _ ?side1 ?side2 ?side3 ?side4 A73.out).mono ?_); (case side1 => repeat (first | exact (Kd.R_reads' HO903.out).2.2 | (with_reducible refine Kd.C_alloc ?_ _) | (with_reducible refine Kd.C_drewN ?_ _) | (with_reducible refine Kd.C_drew ?_))); (case side2 => exact (Kd.R_reads' HO903.out).2.1); (case side3 => repeat (first | exact (Kd.R_reads' HO_8.out).2.2 | (with_reducible refine Kd.C_alloc ?_ _) | (with_reducible refine Kd.C_drewN ?_ _) | (with_reducible refine Kd.C_drew ?_))); (case side4 => exact (Kd.R_reads' HO_8.out).2.1); rintro e w' ⟨rfl, ⟨nd, rfl⟩⟩; refine ⟨_, rfl, ?_⟩))
             go_meet
             case rel => exact ⟨_, (true), (by first | rfl | (simp; done) | (simp [*]; done)), H', ⟨by have := HJ12.out; have := HJ40.out; first | omega | exact Nat.le_refl _⟩, ⟨by (try simp only [hl874001_40]); (try simp only [hl874002_40]); refine ZQ ?_; exact Kd.R_mono HO_11.out (fun _ hk => (And.intro (hk.1.1.1.2.1) (hk.1.1.1.2.2)))⟩, ⟨by (try simp only [hl874001_40]); (try simp only [hl874002_40]); refine ZQ ?_; exact Kd.R_mono HO_874001.out (fun _ hk => (And.intro (hk.1.1.1.2.1) (hk.1.1.1.2.2)))⟩, ⟨by (try simp only [hl874001_40]); (try simp only [hl874002_40]); refine ZQ ?_; exact Kd.R_mono HO_874002.out (fun _ hk => (And.intro (hk.1.1.1.2.1) (hk.1.1.1.2.2)))⟩, ⟨by (try simp only [hl874001_40]); (try simp only [hl874002_40]); refine ZS ?_; exact BK853.out⟩, ⟨by (try simp only [hl874001_40]); (try simp only [hl874002_40]); refine ZS ?_; exact BK873.out⟩, ⟨ZB⟩⟩
           case rest =>
            clear HC64
            try clear c1
            try clear c2
            try clear p2
            try clear c3
            try clear c4
            try clear c5
            try clear c5b0
            try clear c6
            try clear c7
            try clear c8
            try clear c14
            try clear c16
            try clear c19
            try clear c20
            try clear c25
            try clear c29
            try clear c30
            try clear c31
            try clear c36
            try clear c37
            try clear c39
            try clear c47
            try clear c50
            try clear c50b0
            try clear c52
            try clear c57
            try clear c60
            try clear c60b0
            try clear c61
            try clear c61b0
            try clear c61b1
            try clear c67
            try clear c74
            try clear hcz15_0
            try clear hcz15_1
            try clear hcz15_2
            try clear hcz17_0
            try clear hcz17_1
            try clear hcz17_2
            try clear hcz22_0
            try clear hcz22_1
            try clear hcz22_2
            try clear hcz26_0
            try clear hcz26_1
            try clear hcz26_2
            try clear hcz48_0
            try clear hcz48_1
            try clear hcz48_2
            try clear hcz68_0
            try clear hcz68_1
            try clear hcz68_2
            try clear hcz7_0
            try clear hcz7_1
            try clear hcz7_2
            try clear hfz15_0
            try clear hfz15_1
            try clear hfz15_2
            try clear hfz17_0
            try clear hfz17_1
            try clear hfz17_2
            try clear hfz22_0
            try clear hfz22_1
            try clear hfz22_2
            try clear hfz26_0
            try clear hfz26_1
            try clear hfz26_2
            try clear hfz48_0
            try clear hfz48_1
            try clear hfz48_2
            try clear hfz68_0
            try clear hfz68_1
            try clear hfz68_2
            try clear hfz7_0
            try clear hfz7_1
            try clear hfz7_2
            try clear p2
            obtain ⟨kq, x97_63, rfl, HA, HJ63, HO_11, HO_874001, HO_874002, BK853, BK873, HB⟩ := hcut
            have hl11_63 := (Kd.R_reads' HO_11.out).1
            rw [hl11_63] at HO_11
            (try simp only [hl11_63])
            (try simp only [hl11_63] at BK853)
            (try simp only [hl11_63] at BK873)
            (try simp only [hl11_63] at HO_874001)
            (try simp only [hl11_63] at HO_874002)
            cases kq with
            | zero => exact absurd HA.out (by simp [laws_FnExactExpandProduct.j2])
            | succ kj63 =>
             have H := HA.out
             clear HA
             simp only [laws_FnExactExpandProduct.j2] at H
             by_cases c79 : x97_63 = true
             ·subst c79
              have H1 : (some false) = some r := by rw [if_pos rfl] at H; exact H
              clear H
              have H := H1
              clear H1
              exact absurd (H.trans (congrArg some hT.out)) (by simp)
             ·replace c79 := Bool.eq_false_iff.mpr c79
              subst c79
              have H1 : ((laws_heldInt64S.f kj63 t892 1).bind fun t906 => (if t906 < 0 then (some false) else (if t906 = t891 then (some true) else (some false)))) = some r := by rw [if_neg (show ¬ (false = true) by decide)] at H; exact H
              clear H
              have H := H1
              clear H1
              replace H := Option.bind_eq_some_iff.mp H
              obtain ⟨t906, A800, H⟩ := H
              replace H : (if t906 < 0 then (some false) else (if t906 = t891 then (some true) else (some false))) = some r := H
              have A80 := Aside0.mk A800
              clear A800
              by_cases c81 : t906 < 0
              ·rw [if_pos c81] at H
               have c81b0 : decide (t906 < 0) = true := decide_eq_true c81
               clear c81
               exact absurd (H.trans (congrArg some hT.out)) (by simp)
              ·rw [if_neg c81] at H
               have c81b0 : decide (t906 < 0) = false := decide_eq_false c81
               clear c81
               by_cases c82 : t906 = t891
               ·rw [if_pos c82] at H
                have c82b0 : (t906 == t891) = true := beq_iff_eq.mpr c82
                have c82b1 : (t906 != t891) = false := bne_eq_false_iff_eq.mpr c82
                clear c82
                obtain rfl := Option.some.inj H
                go_wp2_with (first | ((with_reducible refine gate_callee (f := 31) rfl ?_); refine goesL_ (some 100) rfl rfl Try.func31 (by kernel_rfl) rfl #[.slice Ao65 t892.length co65, .int .i64 1] rfl ZA ?_; (with_reducible refine (laws_heldInt64S.calls kj63 _ _ t892 1 t906 _ ?side1 ?side2 A80.out).mono ?_); (case side1 => repeat (first | exact (Kd.R_reads' HO_11.out).2.2 | (with_reducible refine Kd.C_alloc ?_ _) | (with_reducible refine Kd.C_drewN ?_ _) | (with_reducible refine Kd.C_drew ?_))); (case side2 => exact (Kd.R_reads' HO_11.out).2.1); rintro e w' ⟨rfl, ⟨nd, rfl⟩⟩; refine ⟨_, rfl, ?_⟩))
                go_ret
                exact ⟨by first | rfl | (simp [errW_none, errW_some] <;> rfl) | (simp [*, errW_none, errW_some] <;> rfl), ZB⟩
               ·rw [if_neg c82] at H
                have c82b0 : (t906 == t891) = false := beq_eq_false_iff_ne.mpr c82
                have c82b1 : (t906 != t891) = true := bne_iff_ne.mpr c82
                exact absurd (H.trans (congrArg some hT.out)) (by simp)
          ·rw [if_neg c61] at H
           have c61b0 : (t893 == t891) = false := beq_eq_false_iff_ne.mpr c61
           have c61b1 : (t893 != t891) = true := bne_iff_ne.mpr c61
           exact absurd (H.trans (congrArg some hT.out)) (by simp)
     ·replace c39 := Bool.eq_false_iff.mpr c39
      subst c39
      have H1 : (some false) = some r := by rw [if_neg (show ¬ (false = true) by decide)] at H; exact H
      clear H
      have H := H1
      clear H1
      exact absurd (H.trans (congrArg some hT.out)) (by simp)

end Go.Proofs.Ytaclapojgdekpaa.X
