/- Contracts of functions that the law reaches, printed by a program of this session; Lean checks them. -/
import Derived.Test.YtlodpobegdbhaaaCPathCountsX0
import Derived.Test.YtlodpobegdbhaaaCPathCountsX26
import Derived.Test.YtlodpobegdbhaaaCPathCountsX29
import Derived.Test.YtlodpobegdbhaaaCPathCountsX4
import Derived.Test.YtlodpobegdbhaaaCPathCountsX5
import Derived.Test.YtlodpobegdbhaaaCPathCountsX6
import Derived.Test.YtlodpobegdbhaaaCPathCountsXZ
namespace Go.Proofs.Ytlodpobegdbhaaa.X
open Go.RowKit Go.Proofs.YtlodpobegdbhaaaW.PrintWords Go.Proofs.YtlodpobegdbhaaaW.PrintLast Go.Proofs.YtlodpobegdbhaaaW.PrintMore
attribute [local go_sem] max2_int min2_int max_two min_two max_three min_three max_four min_four   -- for this text's walks alone
set_option linter.unusedVariables false
set_option linter.unusedSimpArgs false

/-! ### impl_WeightOfPath: function 38 -/
mutual
def impl_WeightOfPath.j0 : Nat → ByteArray → List Int → Bool → Int → List Int → List Int → Option (Int × Int)
 | 0, _, _, _, _, _, _ => none
 | k + 1, x1, x8, x34, x1121000, x1121001, x1121002 => if x34 = true then (some (0, 2)) else ((impl_Jacobi_field.f x1121000 x1121001 x1121002).bind fun t1129 => ((impl_field_mod.f t1129 1).bind fun t1130 => (if (x1.size : Int) ≤ 1000000 then ((some (bytesOf x1 : List Int)).bind fun y1131 => (impl_WeightOfPath.l0 k x8 t1129 t1130 y1131 (y1131.length : Int) 0 x1121000 x1121001 x1121002)) else (none))))
def impl_WeightOfPath.l0 : Nat → List Int → Int → Int → List Int → Int → Int → Int → List Int → List Int → Option (Int × Int)
 | 0, _, _, _, _, _, _, _, _, _ => none
 | k + 1, x8, x10, x11, x40, x41, x42, x1121000, x1121001, x1121002 => if x42 < x41 then (if 0 ≤ x42 then (if x42 < (x40.length : Int) then (if (rd x40 x42) = 76 then (if x42 < (x8.length : Int) then (if 0 ≤ (rd x8 x42) then (if (rd x8 x42) < (x1121001.length : Int) then ((impl_field_mul.f x10 x11 (rd x1121001 (rd x8 x42))).bind fun t1137 => (impl_WeightOfPath.l0 k x8 x10 t1137 x40 x41 (wrap64 (x42 + 1)) x1121000 x1121001 x1121002)) else (none)) else (none)) else (none)) else (if (rd x40 x42) = 68 then (if x42 < (x8.length : Int) then (if 0 ≤ (rd x8 x42) then (if (rd x8 x42) < (x1121002.length : Int) then ((impl_field_mul.f x10 x11 (rd x1121002 (rd x8 x42))).bind fun t1140 => (impl_WeightOfPath.l0 k x8 x10 t1140 x40 x41 (wrap64 (x42 + 1)) x1121000 x1121001 x1121002)) else (none)) else (none)) else (none)) else (impl_WeightOfPath.l0 k x8 x10 x11 x40 x41 (wrap64 (x42 + 1)) x1121000 x1121001 x1121002))) else (none)) else (none)) else (some (x11, 0))
end
def impl_WeightOfPath.f (k : Nat) (a0_0 : Int) (l0_1 : List Int) (l0_2 : List Int) (a1 : ByteArray) (a2 : Int) : Option (Int × Int) := (impl_IsJacobi.f k a0_0 l0_1 l0_2).bind fun t1121 => (if t1121 = true then ((impl_Jacobi_size.f a0_0 l0_1 l0_2).bind fun t1122 => ((impl_pathHeights.f k a1 a2 (wrap64 (t1122 - 1))).bind fun bt1123 => (if bt1123.2 = true then ((slices_Max_int64_int64.f k bt1123.1).bind fun t1127 => ((impl_Jacobi_size.f a0_0 l0_1 l0_2).bind fun t1128 => (impl_WeightOfPath.j0 k a1 bt1123.1 (decide (t1127 ≥ t1128)) a0_0 l0_1 l0_2))) else (impl_WeightOfPath.j0 k a1 bt1123.1 true a0_0 l0_1 l0_2)))) else (some (0, 1)))
theorem impl_WeightOfPath.mono_l : ∀ k, (∀ y0 y1 y2 y3 y4 y5, LeO (impl_WeightOfPath.j0 k y0 y1 y2 y3 y4 y5) (impl_WeightOfPath.j0 (k + 1) y0 y1 y2 y3 y4 y5)) ∧ (∀ y0 y1 y2 y3 y4 y5 y6 y7 y8, LeO (impl_WeightOfPath.l0 k y0 y1 y2 y3 y4 y5 y6 y7 y8) (impl_WeightOfPath.l0 (k + 1) y0 y1 y2 y3 y4 y5 y6 y7 y8))
 | 0 => ⟨fun _ _ _ _ _ _ r h => by simp [impl_WeightOfPath.j0] at h, fun _ _ _ _ _ _ _ _ _ r h => by simp [impl_WeightOfPath.l0] at h⟩
 | k + 1 => by
  obtain ⟨ih0, ih1⟩ := impl_WeightOfPath.mono_l k
  refine ⟨?_, ?_⟩
  ·intro y0 y1 y2 y3 y4 y5
   unfold impl_WeightOfPath.j0
   repeat' first
   | (with_reducible exact ih0 _ _ _ _ _ _)
   | (with_reducible exact ih1 _ _ _ _ _ _ _ _ _)
   | (with_reducible exact impl_IsJacobi.mono _ _ _ _)
   | (with_reducible exact impl_pathHeights.mono _ _ _ _)
   | (with_reducible exact slices_Max_int64_int64.mono _ _)
   | (with_reducible exact LeO.refl _)
   | (with_reducible exact LeO.none _)
   | (with_reducible refine LeO.ite ?_ ?_)
   | (with_reducible refine LeO.bind ?_ (fun _ => ?_))
   | exact ih0 _ _ _ _ _ _
   | exact ih1 _ _ _ _ _ _ _ _ _
   | exact impl_IsJacobi.mono _ _ _ _
   | exact impl_pathHeights.mono _ _ _ _
   | exact slices_Max_int64_int64.mono _ _
   | exact LeO.none _
   | refine LeO.ite ?_ ?_
   | refine LeO.bind ?_ (fun _ => ?_)
  ·intro y0 y1 y2 y3 y4 y5 y6 y7 y8
   unfold impl_WeightOfPath.l0
   repeat' first
   | (with_reducible exact ih0 _ _ _ _ _ _)
   | (with_reducible exact ih1 _ _ _ _ _ _ _ _ _)
   | (with_reducible exact impl_IsJacobi.mono _ _ _ _)
   | (with_reducible exact impl_pathHeights.mono _ _ _ _)
   | (with_reducible exact slices_Max_int64_int64.mono _ _)
   | (with_reducible exact LeO.refl _)
   | (with_reducible exact LeO.none _)
   | (with_reducible refine LeO.ite ?_ ?_)
   | (with_reducible refine LeO.bind ?_ (fun _ => ?_))
   | exact ih0 _ _ _ _ _ _
   | exact ih1 _ _ _ _ _ _ _ _ _
   | exact impl_IsJacobi.mono _ _ _ _
   | exact impl_pathHeights.mono _ _ _ _
   | exact slices_Max_int64_int64.mono _ _
   | exact LeO.none _
   | refine LeO.ite ?_ ?_
   | refine LeO.bind ?_ (fun _ => ?_)
theorem impl_WeightOfPath.mono : ∀ a0 a1 a2 a3 a4 k, LeO (impl_WeightOfPath.f k a0 a1 a2 a3 a4) (impl_WeightOfPath.f (k + 1) a0 a1 a2 a3 a4) := by
 intro a0 a1 a2 a3 a4 k
 obtain ⟨ih0, ih1⟩ := impl_WeightOfPath.mono_l k
 unfold impl_WeightOfPath.f
 repeat' first
   | (with_reducible exact ih0 _ _ _ _ _ _)
   | (with_reducible exact ih1 _ _ _ _ _ _ _ _ _)
   | (with_reducible exact impl_IsJacobi.mono _ _ _ _)
   | (with_reducible exact impl_pathHeights.mono _ _ _ _)
   | (with_reducible exact slices_Max_int64_int64.mono _ _)
   | (with_reducible exact LeO.refl _)
   | (with_reducible exact LeO.none _)
   | (with_reducible refine LeO.ite ?_ ?_)
   | (with_reducible refine LeO.bind ?_ (fun _ => ?_))
   | exact ih0 _ _ _ _ _ _
   | exact ih1 _ _ _ _ _ _ _ _ _
   | exact impl_IsJacobi.mono _ _ _ _
   | exact impl_pathHeights.mono _ _ _ _
   | exact slices_Max_int64_int64.mono _ _
   | exact LeO.none _
   | refine LeO.ite ?_ ?_
   | refine LeO.bind ?_ (fun _ => ?_)
def impl_WeightOfPath.T4 : Bool × List (List Nat × List Nat) := (true, [([], []), ([0], [0]), ([1], [1]), ([2], [2]), ([3, 2, 2], [2, 3]), ([2], [2]), ([5, 4, 2], [2, 5]), ([4, 6, 2], [2, 4, 6]), ([2, 7], [2, 7])])
def impl_WeightOfPath.B4 : List Nat := [0, 1, 3, 7, 15, 7, 63, 127, 255]
theorem impl_WeightOfPath.tab4 : rtab .any (opsOf Try.f38 4) = impl_WeightOfPath.T4 := by kernel_rfl
theorem impl_WeightOfPath.bits4 : waitsOk impl_WeightOfPath.T4.2 impl_WeightOfPath.B4 = true := by kernel_rfl
def impl_WeightOfPath.T13 : Bool × List (List Nat × List Nat) := (true, [([], []), ([], []), ([], []), ([2], [2]), ([], []), ([], []), ([4, 5], [4, 5]), ([6], [6]), ([3, 7], [3, 7]), ([8], [8]), ([0, 1, 9], [0, 1, 9]), ([10, 10, 0, 1, 2, 3, 4, 5, 6, 7, 8, 9, 10], [1, 10])])
def impl_WeightOfPath.B13 : List Nat := [0, 0, 0, 4, 0, 0, 48, 112, 252, 508, 1023, 2047]
theorem impl_WeightOfPath.tab13 : rtab .any (opsOf Try.f38 13) = impl_WeightOfPath.T13 := by kernel_rfl
theorem impl_WeightOfPath.bits13 : waitsOk impl_WeightOfPath.T13.2 impl_WeightOfPath.B13 = true := by kernel_rfl
def impl_WeightOfPath.T15 : Bool × List (List Nat × List Nat) := (true, [([], []), ([], []), ([], []), ([2], [2]), ([], []), ([], []), ([4, 5], [4, 5]), ([6], [6]), ([3, 7], [3, 7]), ([8], [8]), ([0, 1, 9], [0, 1, 9]), ([10, 10, 0, 1, 2, 3, 4, 5, 6, 7, 8, 9, 10], [1, 10])])
def impl_WeightOfPath.B15 : List Nat := [0, 0, 0, 4, 0, 0, 48, 112, 252, 508, 1023, 2047]
theorem impl_WeightOfPath.tab15 : rtab .any (opsOf Try.f38 15) = impl_WeightOfPath.T15 := by kernel_rfl
theorem impl_WeightOfPath.bits15 : waitsOk impl_WeightOfPath.T15.2 impl_WeightOfPath.B15 = true := by kernel_rfl
set_option maxHeartbeats 8000000 in
set_option maxRecDepth 100000 in
theorem impl_WeightOfPath.calls (k : Nat) (a0_0 : Int) (A0_1 : Option Addr) (c0_1 : Nat) (l0_1 : List Int) (A0_2 : Option Addr) (c0_2 : Nat) (l0_2 : List Int) (a1 : ByteArray) (a2 : Int) (r1 : Int) (r2 : Int) (w : World) (hr0_1 : Kd.C (Kd.int .i64) w A0_1 l0_1.length l0_1) (hc0_1 : l0_1.length ≤ c0_1) (hr0_2 : Kd.C (Kd.int .i64) w A0_2 l0_2.length l0_2) (hc0_2 : l0_2.length ≤ c0_2) (h : impl_WeightOfPath.f k a0_0 l0_1 l0_2 a1 a2 = some (r1, r2)) :
  Calls Try.prog 38 #[.agg #[.int .i64 a0_0, .slice A0_1 l0_1.length c0_1, .slice A0_2 l0_2.length c0_2], .string a1, .int .i64 a2] w fun e w' => e = .returned (.tuple #[.int .i64 r1, .int .i64 r2]) ∧ Below w.heap.size w w' := by
 have hu26 := Try.underlying26
 have HR0_1 := Aside0.mk hr0_1
 have HC0_1 := Aside0.mk hc0_1
 clear hr0_1 hc0_1
 have HR0_2 := Aside0.mk hr0_2
 have HC0_2 := Aside0.mk hc0_2
 clear hr0_2 hc0_2
 have HB := Aside0.mk (Below.refl w.heap.size w)
 have H : ((impl_IsJacobi.f k a0_0 l0_1 l0_2).bind fun t1121 => (if t1121 = true then ((impl_Jacobi_size.f a0_0 l0_1 l0_2).bind fun t1122 => ((impl_pathHeights.f k a1 a2 (wrap64 (t1122 - 1))).bind fun bt1123 => (if bt1123.2 = true then ((slices_Max_int64_int64.f k bt1123.1).bind fun t1127 => ((impl_Jacobi_size.f a0_0 l0_1 l0_2).bind fun t1128 => (impl_WeightOfPath.j0 k a1 bt1123.1 (decide (t1127 ≥ t1128)) a0_0 l0_1 l0_2))) else (impl_WeightOfPath.j0 k a1 bt1123.1 true a0_0 l0_1 l0_2)))) else (some (0, 1)))) = some (r1, r2) := h
 clear h
 replace H := Option.bind_eq_some_iff.mp H
 obtain ⟨t1121, A40, H⟩ := H
 try dsimp only at H
 have A4 := Aside0.mk A40
 clear A40
 by_cases c5 : t1121 = true
 ·subst c5
  rw [if_pos rfl] at H
  replace H := Option.bind_eq_some_iff.mp H
  obtain ⟨t1122, A60, H⟩ := H
  try dsimp only at H
  have A6 := Aside0.mk A60
  clear A60
  replace H := Option.bind_eq_some_iff.mp H
  obtain ⟨⟨t1123, t1124⟩, A70, H⟩ := H
  try dsimp only at H
  have A7 := Aside0.mk A70
  clear A70
  have HC8 := Aside0.mk H
  clear H
  go_enter Try.func38, Try.ntmps38
  go_upto_region 4 with (first | ((with_reducible refine gate_dst (N := 3) rfl ?_); refine box_event ?hg (N := 3) ?hd (cs := #[.int .i64 a0_0, .slice A0_1 l0_1.length c0_1, .slice A0_2 l0_2.length c0_2]) (t := 26) ?hr ?_; (case hd => rfl); (case hg => rfl); (case hr => exact ZqT); intro gb1120 hg w9 hbox hb; have n0_ := Aside0.mk (below_step ZB hb); have n1_ := Aside0.mk (hbox); have n2_ := Aside0.mk ((ZG hg : w.heap.size ≤ gb1120)); have n3_ := Aside0.mk ((ZG hg : w.heap.size ≤ gb1120)); clear HB; have HB := n0_; have BK1120 := n1_; have GW1120 := n2_; have GE1120 := n3_; clear n0_ n1_ n2_ n3_; clear hb hbox hg; obtain ⟨hcz10_0, hcz10_1, hcz10_2, hfz10_0, hfz10_1, hfz10_2⟩ := ZD3 BK1120) | ((with_reducible refine gate_callee (f := 149) rfl ?_); refine goesL_ (some 15) rfl rfl Try.func149 (by kernel_rfl) rfl #[.agg #[.int .i64 a0_0, .slice A0_1 l0_1.length c0_1, .slice A0_2 l0_2.length c0_2]] rfl ZA ?_; (with_reducible refine (impl_IsJacobi.calls k a0_0 _ _ l0_1 _ _ l0_2 true _ ?side1 ?side2 ?side3 ?side4 A4.out).mono ?_); (case side1 => exact ZC HR0_1); (case side2 => exact HC0_1.out); (case side3 => exact ZC HR0_2); (case side4 => exact HC0_2.out); rintro e w11 ⟨rfl, hb⟩; refine ⟨_, rfl, ?_⟩; have n0_ := ZL BK1120 hb; have n1_ := Aside0.mk (below_step ZB hb); clear BK1120 HB; have BK1120 := n0_; have HB := n1_; clear n0_ n1_; (try clear hb); obtain ⟨hcz12_0, hcz12_1, hcz12_2, hfz12_0, hfz12_1, hfz12_2⟩ := ZD3 BK1120) | ((with_reducible refine gate_callee (f := 125) rfl ?_); refine goesL_ (some 21) rfl rfl Try.func125 (by kernel_rfl) rfl #[.agg #[.int .i64 a0_0, .slice A0_1 l0_1.length c0_1, .slice A0_2 l0_2.length c0_2]] rfl ZA ?_; (with_reducible refine (impl_Jacobi_size.calls a0_0 _ _ l0_1 _ _ l0_2 t1122 _ ?side1 ?side2 ?side3 ?side4 A6.out).mono ?_); (case side1 => exact ZC HR0_1); (case side2 => exact HC0_1.out); (case side3 => exact ZC HR0_2); (case side4 => exact HC0_2.out); rintro e w13 ⟨rfl, hb⟩; refine ⟨_, rfl, ?_⟩; have n0_ := ZL BK1120 hb; have n1_ := Aside0.mk (below_step ZB hb); clear BK1120 HB; have BK1120 := n0_; have HB := n1_; clear n0_ n1_; (try clear hb)) | ((with_reducible refine gate_callee (f := 143) rfl ?_); refine goesL_ (some 23) rfl rfl Try.func143 (by kernel_rfl) rfl #[.string a1, .int .i64 a2, .int .i64 (wrap64 (t1122 - 1))] rfl ZA ?_; (with_reducible refine (impl_pathHeights.calls k a1 a2 (wrap64 (t1122 - 1)) t1123 t1124 _ A7.out).mono ?_); rintro e w14 ⟨v1125, rfl, ho0, hb⟩; refine ⟨_, rfl, ?_⟩; have n0_ := Aside0.mk (Kd.R_lower ho0 (below_size ZB)); have n1_ := ZL BK1120 hb; have n2_ := Aside0.mk (below_step ZB hb); clear BK1120 HB; have HO1126 := n0_; have BK1120 := n1_; have HB := n2_; clear n0_ n1_ n2_; (try clear hb); (try clear ho0)))
  (try simp only [Act.put, List.setIfInBounds_toArray, List.set_cons_zero, List.set_cons_succ])
  go_cut [34] (fun v34 wc => ∃ (kq : Nat) (x34_7 : Bool), v34 = .bool x34_7 ∧ Aside0 (impl_WeightOfPath.j0 kq a1 t1123 x34_7 a0_0 l0_1 l0_2 = some (r1, r2)) ∧ Aside0 (kq ≤ k) ∧ Aside0 (Kd.R (Kd.int .i64) 2 wc w.heap.size (fun _ => True) v1125 t1123) ∧ Aside0 (wc.heap[gb1120]? = some (.cells #[.int .i64 a0_0, (.slice A0_1 l0_1.length c0_1), (.slice A0_2 l0_2.length c0_2)] 26 (0, 0))) ∧ Aside0 (Below w.heap.size w wc))
  case first =>
   have H := HC8.out
   clear HC8
   by_cases c15 : t1124 = true
   ·subst c15
    rw [if_pos rfl] at H
    replace H := Option.bind_eq_some_iff.mp H
    obtain ⟨t1127, A160, H⟩ := H
    try dsimp only at H
    have A16 := Aside0.mk A160
    clear A160
    replace H := Option.bind_eq_some_iff.mp H
    obtain ⟨t1128, A170, H⟩ := H
    try dsimp only at H
    have A17 := Aside0.mk A170
    clear A170
    have H' := Aside0.mk H
    clear H
    try go_wp2
    have n0_ := Aside0.mk (Kd.R_drew HO1126.out)
    have n1_ := Aside0.mk (blk_drew BK1120.out)
    have n2_ := Aside0.mk (below_drew1 HB.out)
    clear HO1126
    clear BK1120
    clear HB
    have HO1126 := n0_
    have BK1120 := n1_
    have HB := n2_
    clear n0_ n1_ n2_
    obtain ⟨Ao19, co19, eo19⟩ := Kd.R_slice HO1126.out
    (first | subst eo19 | (injection eo19 with f1_ f2_ f3_; have f4_ := f1_.symm; have f5_ := f3_.symm; clear f1_ f2_ f3_; subst f4_; subst f5_))
    refine start_ (n := 9) (S := fun w' => w'.cell? ⟨gb1120, 0, none⟩ = some (.int .i64 a0_0) ∧ w'.cell? ⟨gb1120, 1, none⟩ = some (.slice A0_1 l0_1.length c0_1) ∧ w'.cell? ⟨gb1120, 2, none⟩ = some (.slice A0_2 l0_2.length c0_2)) (ds := []) #[false, false, false, false, false, false, false, false, false] (by kernel_rfl) rfl rfl ⟨(blk_cell BK1120.out 0).trans rfl, (blk_cell BK1120.out 1).trans rfl, (blk_cell BK1120.out 2).trans rfl⟩ (fun hHeld => ?_); refine with_tabW impl_WeightOfPath.tab4 impl_WeightOfPath.bits4 (fun HT_ HW_ => ?_)
    generalize w14.drew = w18 at HO1126 BK1120 HB hHeld ⊢
    refine Zpt 0 (some 26) (h := ?_)
    refine Zpt 1 (some 27) (h := ?_)
    refine Zpt 2 (some 28) (h := ?_)
    refine Zpt 3 (some 29) (h := ?_)
    refine ZtW3 5 (some 31) hHeld (h := ?_)
    refine one_ (i := 4) (N := some 30) #[true, true, true, true, true, true, false, false, false] rfl rfl (one_of HT_.out (by kernel_rfl)) (by decide) (fun K hK => ?_)
    refine goes_ Try.func150 (by kernel_rfl) rfl #[.slice Ao19 t1123.length co19] (by rfl) rfl rfl ZA ?_
    with_reducible refine (slices_Max_int64_int64.calls k _ _ t1123 t1127 _ ?side1 ?side2 A16.out).mono ?_
    (case side1 => exact ZqC ((Kd.R_reads' HO1126.out).2.2))
    (case side2 => exact (Kd.R_reads' HO1126.out).2.1)
    rintro e w20 ⟨rfl, hb⟩
    refine ⟨_, rfl, ?_⟩
    have n0_ := Aside0.mk (Kd.R_below (ZR HO1126) hb)
    have n1_ := ZL BK1120 hb
    have n2_ := Aside0.mk (below_step ZB hb)
    clear HO1126
    clear BK1120
    clear HB
    have HO1126 := n0_
    have BK1120 := n1_
    have HB := n2_
    clear n0_ n1_ n2_
    (try clear hb)
    (try clear hb2)
    (try clear hk)
    (try clear hi)
    refine hK.out _ _ ⟨(blk_cell BK1120.out 0).trans rfl, (blk_cell BK1120.out 1).trans rfl, (blk_cell BK1120.out 2).trans rfl⟩ (fun hHeld => ?_)
    clear hK K
    refine norm_ (a' := ?_) ?_ ?_
    rotate_left
    ·show Act.put _ (some 30) _ = _
     simp only [Act.put, List.setIfInBounds_toArray, List.set_cons_zero, List.set_cons_succ, i64_w, i32_w]
     rfl
    refine one_ (i := 6) (N := some 32) #[true, true, true, true, true, true, true, false, false] rfl rfl (one_of HT_.out (by kernel_rfl)) (by decide) (fun K hK => ?_)
    refine goes_ Try.func125 (by kernel_rfl) rfl #[.agg #[.int .i64 a0_0, .slice A0_1 l0_1.length c0_1, .slice A0_2 l0_2.length c0_2]] (by rfl) rfl rfl ZA ?_
    with_reducible refine (impl_Jacobi_size.calls a0_0 _ _ l0_1 _ _ l0_2 t1128 _ ?side1 ?side2 ?side3 ?side4 A17.out).mono ?_
    (case side1 => exact ZC HR0_1)
    (case side2 => exact HC0_1.out)
    (case side3 => exact ZC HR0_2)
    (case side4 => exact HC0_2.out)
    rintro e w21 ⟨rfl, hb⟩
    refine ⟨_, rfl, ?_⟩
    have n0_ := Aside0.mk (Kd.R_below (ZR HO1126) hb)
    have n1_ := ZL BK1120 hb
    have n2_ := Aside0.mk (below_step ZB hb)
    clear HO1126
    clear BK1120
    clear HB
    have HO1126 := n0_
    have BK1120 := n1_
    have HB := n2_
    clear n0_ n1_ n2_
    (try clear hb)
    (try clear hb2)
    (try clear hk)
    (try clear hi)
    refine hK.out _ _ ⟨(blk_cell BK1120.out 0).trans rfl, (blk_cell BK1120.out 1).trans rfl, (blk_cell BK1120.out 2).trans rfl⟩ (fun hHeld => ?_)
    clear hK K
    refine norm_ (a' := ?_) ?_ ?_
    rotate_left
    ·show Act.put _ (some 32) _ = _
     simp only [Act.put, List.setIfInBounds_toArray, List.set_cons_zero, List.set_cons_succ, i64_w, i32_w]
     rfl
    refine Zpt 7 (some 33) (h := ?_)
    refine Zpt 8 (some 34) (h := ?_)
    refine done_ (done_of HT_.out (by kernel_rfl)) ?_
    try go_wp2
    go_meet
    case rel => exact ⟨_, (decide (t1127 ≥ t1128)), (ZqS), H', ⟨by first | omega | exact Nat.le_refl _⟩, ⟨ZR HO1126⟩, ⟨ZK BK1120⟩, ⟨ZB⟩⟩
   ·replace c15 := Bool.eq_false_iff.mpr c15
    subst c15
    rw [if_neg (show ¬ (false = true) by decide)] at H
    have H' := Aside0.mk H
    clear H
    try go_wp2
    have n0_ := Aside0.mk (Kd.R_drew HO1126.out)
    have n1_ := Aside0.mk (blk_drew BK1120.out)
    have n2_ := Aside0.mk (below_drew1 HB.out)
    clear HO1126
    clear BK1120
    clear HB
    have HO1126 := n0_
    have BK1120 := n1_
    have HB := n2_
    clear n0_ n1_ n2_
    refine start_ (n := 9) (S := fun w' => True) (ds := []) #[false, false, false, false, false, false, false, false, false] (by kernel_rfl) rfl rfl trivial (fun hHeld => ?_); refine with_tabW impl_WeightOfPath.tab4 impl_WeightOfPath.bits4 (fun HT_ HW_ => ?_)
    generalize w14.drew = w22 at HO1126 BK1120 HB hHeld ⊢
    refine Zpt 0 (some 26) (h := ?_)
    refine Zpt 1 (some 27) (h := ?_)
    refine Zpt 2 (some 28) (h := ?_)
    refine pure_ (i := 3) (N := some 29) (v := undef) (a' := ?_) #[true, true, true, true, false, false, false, false, false] rfl rfl (any_of HT_.out (by kernel_rfl)) (fun _ _ _ h => h) (Or.inr ⟨by rfl, rfl⟩) ?_ ?_
    rotate_left
    ·exact ZW
    refine pure_ (i := 4) (N := some 30) (v := undef) (a' := ?_) #[true, true, true, true, true, false, false, false, false] rfl rfl (any_of HT_.out (by kernel_rfl)) (fun _ _ _ h => h) (Or.inr ⟨by rfl, rfl⟩) ?_ ?_
    rotate_left
    ·exact ZW
    refine pure_ (i := 5) (N := some 31) (v := undef) (a' := ?_) #[true, true, true, true, true, true, false, false, false] rfl rfl (any_of HT_.out (by kernel_rfl)) (fun _ _ _ h => h) (Or.inr ⟨by rfl, rfl⟩) ?_ ?_
    rotate_left
    ·exact ZW
    refine pure_ (i := 6) (N := some 32) (v := undef) (a' := ?_) #[true, true, true, true, true, true, true, false, false] rfl rfl (any_of HT_.out (by kernel_rfl)) (fun _ _ _ h => h) (Or.inr ⟨by rfl, rfl⟩) ?_ ?_
    rotate_left
    ·exact ZW
    refine pure_ (i := 7) (N := some 33) (v := undef) (a' := ?_) #[true, true, true, true, true, true, true, true, false] rfl rfl (any_of HT_.out (by kernel_rfl)) (fun _ _ _ h => h) (Or.inr ⟨by rfl, rfl⟩) ?_ ?_
    rotate_left
    ·exact ZW
    refine Zpt 8 (some 34) (h := ?_)
    refine done_ (done_of HT_.out (by kernel_rfl)) ?_
    try go_wp2
    go_meet
    case rel => exact ⟨_, (true), (ZqS), H', ⟨by first | omega | exact Nat.le_refl _⟩, ⟨ZR HO1126⟩, ⟨ZK BK1120⟩, ⟨ZB⟩⟩
  case rest =>
   clear HC8
   try clear c1
   try clear p2
   try clear c3
   try clear c5
   try clear p6
   try clear c12
   try clear c14
   try clear c15
   try clear hcz10_0
   try clear hcz10_1
   try clear hcz10_2
   try clear hcz12_0
   try clear hcz12_1
   try clear hcz12_2
   try clear hfz10_0
   try clear hfz10_1
   try clear hfz10_2
   try clear hfz12_0
   try clear hfz12_1
   try clear hfz12_2
   obtain ⟨kq, x34_7, rfl, HA, HJ7, HO_8, BK1120, HB⟩ := hcut
   cases kq with
   | zero => exact absurd HA.out (by simp [impl_WeightOfPath.j0])
   | succ kj7 =>
    have H := HA.out
    clear HA
    simp only [impl_WeightOfPath.j0] at H
    by_cases c23 : x34_7 = true
    ·subst c23
     rw [if_pos rfl] at H
     simp only [Option.some.injEq, Prod.mk.injEq] at H
     obtain ⟨rfl, rfl⟩ := H
     go_wp2
     go_ret2
     exact ⟨ZqR, ZB⟩
    ·replace c23 := Bool.eq_false_iff.mpr c23
     subst c23
     rw [if_neg (show ¬ (false = true) by decide)] at H
     replace H := Option.bind_eq_some_iff.mp H
     obtain ⟨t1129, A240, H⟩ := H
     try dsimp only at H
     have A24 := Aside0.mk A240
     clear A240
     replace H := Option.bind_eq_some_iff.mp H
     obtain ⟨t1130, A250, H⟩ := H
     try dsimp only at H
     have A25 := Aside0.mk A250
     clear A250
     by_cases c26 : (a1.size : Int) ≤ 1000000
     ·rw [if_pos c26] at H
      have c26b0 := eq_true c26
      have c26b1 : decide ((a1.size : Int) ≤ 1000000) = true := decide_eq_true c26
      clear c26
      obtain ⟨y1131, hy1131⟩ : ∃ y_ : List Int, y_ = (bytesOf a1) := ⟨_, rfl⟩
      replace H : (impl_WeightOfPath.l0 kj7 t1123 t1129 t1130 y1131 (y1131.length : Int) 0 a0_0 l0_1 l0_2) = some (r1, r2) := by have hq_ := hy1131; exact ZqH
      have Ny1131 := Aside0.mk hy1131
      clear hy1131
      have H' := Aside0.mk H
      clear H
      obtain ⟨hcz27_0, hcz27_1, hcz27_2, hfz27_0, hfz27_1, hfz27_2⟩ := ZD3 BK1120
      go_wp2_with (first | ((with_reducible refine gate_callee (f := 110) rfl ?_); refine goesL_ (some 36) rfl rfl Try.func110 (by kernel_rfl) rfl #[.agg #[.int .i64 a0_0, .slice A0_1 l0_1.length c0_1, .slice A0_2 l0_2.length c0_2]] rfl ZA ?_; (with_reducible refine (impl_Jacobi_field.calls a0_0 _ _ l0_1 _ _ l0_2 t1129 _ ?side1 ?side2 ?side3 ?side4 A24.out).mono ?_); (case side1 => exact ZC HR0_1); (case side2 => exact HC0_1.out); (case side3 => exact ZC HR0_2); (case side4 => exact HC0_2.out); rintro e w28 ⟨rfl, hb⟩; refine ⟨_, rfl, ?_⟩; have n0_ := Aside0.mk (Kd.R_below (ZR HO_8) hb); have n1_ := ZL BK1120 hb; have n2_ := Aside0.mk (below_step ZB hb); clear HO_8 BK1120 HB; have HO_8 := n0_; have BK1120 := n1_; have HB := n2_; clear n0_ n1_ n2_; (try clear hb)) | ((with_reducible refine gate_callee (f := 117) rfl ?_); refine goesL_ (some 38) rfl rfl Try.func117 (by kernel_rfl) rfl #[.int .i64 t1129, .int .i64 1] rfl ZA ?_; (with_reducible refine (impl_field_mod.calls t1129 1 t1130 _ A25.out).mono ?_); rintro e w' ⟨rfl, ⟨nd, rfl⟩⟩; refine ⟨_, rfl, ?_⟩) | ((with_reducible refine gate_dst (N := 40) rfl ?_); refine XV.V_conv _ 5 ?hg (N := 40) ?hd 9 22 (.tmp 39) a1 ?ho ?hx (by kernel_rfl) (by kernel_rfl) (by kernel_rfl) (ok := (fun k_ => some k_ ≠ (v1125 : Value).ownBlock ∧ k_ ≠ gb1120)) ((show ∀ k_, w28.heap.size ≤ k_ → (fun k_ => some k_ ≠ (v1125 : Value).ownBlock ∧ k_ ≠ gb1120) k_ from fun k_ hk => ⟨Kd.fresh' (Kd.R_lt (ZR HO_8)) k_ hk, Kd.freshB (ZK BK1120) k_ hk⟩) _ (Nat.le_refl _)) (Below.refl _ _) (Nat.le_refl _) ?hm ?_; (case hd => rfl); (case hg => rfl); (case ho => rfl); (case hx => rfl); (case hm => have := of_decide_eq_true (by first | (with_reducible assumption) | assumption : decide ((a1.size : Int) ≤ 1000000) = true); omega); intro v1132 w29 ho30 hb hg_ hnew_; clear hg_ hnew_; rw [← Ny1131.out] at ho30; have n0_ := Aside0.mk (Kd.R_below (ZR HO_8) hb); have n1_ := Aside0.mk (Kd.V_lower ho30 (below_size ZB)); have n2_ := ZL BK1120 hb; have n3_ := Aside0.mk (below_step ZB hb); clear HO_8 BK1120 HB; have HO_8 := n0_; have HO1133 := n1_; have BK1120 := n2_; have HB := n3_; clear n0_ n1_ n2_ n3_; clear hb ho30; obtain ⟨Ao31, co31, eo31⟩ := Kd.V_slice HO1133.out; subst eo31))
      go_loopg [11, 42] kj7 (fun kq v11 v42 w' => ∃ (x11_2 : Int) (x42_2 : Int), v11 = .int .i64 x11_2 ∧ v42 = .int .i64 x42_2 ∧ Aside0 (impl_WeightOfPath.l0 kq t1123 t1129 x11_2 y1131 (y1131.length : Int) x42_2 a0_0 l0_1 l0_2 = some (r1, r2)) ∧ Aside0 (kq ≤ kj7) ∧ Aside0 (Kd.R (Kd.int .i64) 2 w' w.heap.size (fun _ => True) v1125 t1123) ∧ Aside0 (Kd.V (Kd.int .u8) 5 w' w.heap.size (fun k_ => some k_ ≠ (v1125 : Value).ownBlock ∧ k_ ≠ gb1120) (.slice Ao31 y1131.length co31) y1131) ∧ Aside0 (w'.heap[gb1120]? = some (.cells #[.int .i64 a0_0, (.slice A0_1 l0_1.length c0_1), (.slice A0_2 l0_2.length c0_2)] 26 (0, 0))) ∧ Aside0 (Below w.heap.size w w'))
      case atStart => exact ⟨(t1130), (0), (ZqS), (ZqS), H', ⟨Nat.le_refl _⟩, ⟨ZR HO_8⟩, ⟨by (with_reducible repeat (first | apply Kd.V_alloc | apply Kd.V_drewN | apply Kd.V_drew)); exact HO1133.out⟩, ⟨ZK BK1120⟩, ⟨ZB⟩⟩
      case round =>
       clear H'
       try clear c1
       try clear c2
       try clear p2
       try clear c3
       try clear c5
       try clear p6
       try clear c11
       try clear c12
       try clear c14
       try clear c15
       try clear c23
       try clear c26
       try clear c26b0
       try clear c26b1
       try clear hcz10_0
       try clear hcz10_1
       try clear hcz10_2
       try clear hcz12_0
       try clear hcz12_1
       try clear hcz12_2
       try clear hcz27_0
       try clear hcz27_1
       try clear hcz27_2
       try clear hfz10_0
       try clear hfz10_1
       try clear hfz10_2
       try clear hfz12_0
       try clear hfz12_1
       try clear hfz12_2
       try clear hfz27_0
       try clear hfz27_1
       try clear hfz27_2
       try clear p2
       try clear p6
       obtain ⟨x11_2, x42_2, rfl, rfl, HA, HK2, HO_8, HO_40, BK1120, HB⟩ := hrel
       cases gk with
       | zero => exact absurd HA.out (by simp [impl_WeightOfPath.l0])
       | succ k2 =>
        have H := HA.out
        clear HA
        simp only [impl_WeightOfPath.l0] at H
        by_cases c32 : x42_2 < (y1131.length : Int)
        ·rw [if_pos c32] at H
         have c32b0 : decide (x42_2 < (y1131.length : Int)) = true := decide_eq_true c32
         clear c32
         by_cases c33 : 0 ≤ x42_2
         ·rw [if_pos c33] at H
          have c33b0 : decide (0 ≤ x42_2) = true := decide_eq_true c33
          clear c33
          by_cases c34 : x42_2 < (y1131.length : Int)
          ·rw [if_pos c34] at H
           have c34b0 : decide (x42_2 < (y1131.length : Int)) = true := decide_eq_true c34
           clear c34
           by_cases c35 : (rd y1131 x42_2) = 76
           ·rw [if_pos c35] at H
            have c35b0 : ((rd y1131 x42_2) == 76) = true := beq_iff_eq.mpr c35
            have c35b1 : ((rd y1131 x42_2) != 76) = false := bne_eq_false_iff_eq.mpr c35
            clear c35
            by_cases c36 : x42_2 < (t1123.length : Int)
            ·rw [if_pos c36] at H
             have c36b0 : decide (x42_2 < (t1123.length : Int)) = true := decide_eq_true c36
             clear c36
             by_cases c37 : 0 ≤ (rd t1123 x42_2)
             ·rw [if_pos c37] at H
              have c37b0 : decide (0 ≤ (rd t1123 x42_2)) = true := decide_eq_true c37
              clear c37
              by_cases c38 : (rd t1123 x42_2) < (l0_1.length : Int)
              ·rw [if_pos c38] at H
               have c38b0 : decide ((rd t1123 x42_2) < (l0_1.length : Int)) = true := decide_eq_true c38
               clear c38
               replace H := Option.bind_eq_some_iff.mp H
               obtain ⟨t1137, A390, H⟩ := H
               try dsimp only at H
               have A39 := Aside0.mk A390
               clear A390
               have H' := Aside0.mk H
               clear H
               have p1134 : 0 ≤ (x42_2 : Int) := of_decide_eq_true (by first | (with_reducible assumption) | assumption)
               have q1134 : x42_2 < (y1131.length : Int) := of_decide_eq_true (by first | (with_reducible assumption) | assumption)
               obtain ⟨ad1134, e1134, hx1134_0⟩ := Kd.at_int (Kd.V_reads' HO_40.out).2.2 x42_2 p1134 q1134
               cases e1134
               replace p1134 := eq_true p1134
               replace q1134 := eq_true q1134
               try go_wp2
               have n0_ := Aside0.mk (Kd.R_drew HO_8.out)
               have n1_ := Aside0.mk (Kd.V_drew HO_40.out)
               have n2_ := Aside0.mk (blk_drew BK1120.out)
               have n3_ := Aside0.mk (below_drew1 HB.out)
               clear HO_8
               clear HO_40
               clear BK1120
               clear HB
               have HO_8 := n0_
               have HO_40 := n1_
               have BK1120 := n2_
               have HB := n3_
               clear n0_ n1_ n2_ n3_
               obtain ⟨Ao41, co41, eo41⟩ := Kd.R_slice HO_8.out
               (first | subst eo41 | (injection eo41 with f1_ f2_ f3_; have f4_ := f1_.symm; have f5_ := f3_.symm; clear f1_ f2_ f3_; subst f4_; subst f5_))
               have p1135 : 0 ≤ (x42_2 : Int) := of_decide_eq_true (by first | (with_reducible assumption) | assumption)
               have q1135 : x42_2 < (t1123.length : Int) := of_decide_eq_true (by first | (with_reducible assumption) | assumption)
               obtain ⟨ad1135, e1135, hx1135_0⟩ := Kd.at_int (Kd.R_reads' HO_8.out).2.2 x42_2 p1135 q1135
               cases e1135
               replace p1135 := eq_true p1135
               replace q1135 := eq_true q1135
               have p1136 : 0 ≤ ((rd t1123 x42_2) : Int) := of_decide_eq_true (by first | (with_reducible assumption) | assumption)
               have q1136 : (rd t1123 x42_2) < (l0_1.length : Int) := of_decide_eq_true (by first | (with_reducible assumption) | assumption)
               obtain ⟨ad1136, e1136, hx1136_0⟩ := Kd.at_int HR0_1.out (rd t1123 x42_2) p1136 q1136
               have hw1136_0 := hx1136_0
               cases e1136
               replace hx1136_0 := (HB.out.cell (World.block_lt_of_cell? w _ hx1136_0)).trans hx1136_0
               replace p1136 := eq_true p1136
               replace q1136 := eq_true q1136
               refine start_ (n := 12) (S := fun w' => w'.cell? ⟨gb1120, 0, none⟩ = some (.int .i64 a0_0) ∧ w'.cell? ⟨gb1120, 1, none⟩ = some (.slice (some ad1136) l0_1.length c0_1) ∧ w'.cell? ⟨gb1120, 2, none⟩ = some (.slice A0_2 l0_2.length c0_2) ∧ w'.cell? (ad1135.add (x42_2).toNat) = some (.int .i64 (rd t1123 x42_2)) ∧ w'.cell? (ad1136.add ((rd t1123 x42_2)).toNat) = some (.int .i64 (rd l0_1 (rd t1123 x42_2)))) (ds := []) #[false, false, false, false, false, false, false, false, false, false, false, false] (by kernel_rfl) rfl rfl ⟨(blk_cell BK1120.out 0).trans rfl, (blk_cell BK1120.out 1).trans rfl, (blk_cell BK1120.out 2).trans rfl, hx1135_0, ((HB.out.cell (World.block_lt_of_cell? w _ hw1136_0)).trans hw1136_0)⟩ (fun hHeld => ?_); refine with_tabW impl_WeightOfPath.tab13 impl_WeightOfPath.bits13 (fun HT_ HW_ => ?_)
               generalize wr.drew = w40 at HO_8 HO_40 BK1120 HB hx1135_0 hx1136_0 hHeld ⊢
               refine Zpt 0 (some 50) (h := ?_)
               refine Zpt 1 (some 51) (h := ?_)
               refine Zpt 2 (some 52) (h := ?_)
               refine Zpt 4 (some 54) (h := ?_)
               refine Zpt 5 (some 55) (h := ?_)
               refine Zpt 6 (some 56) (h := ?_)
               refine ZtW5 3 (some 53) hHeld (h := ?_)
               refine ZtW5 7 (some 57) hHeld (h := ?_)
               refine Zpt 8 (some 58) (h := ?_)
               refine ZtW5 9 (some 59) hHeld (h := ?_)
               refine one_ (i := 10) (N := some 60) #[true, true, true, true, true, true, true, true, true, true, true, false] rfl rfl (one_of HT_.out (by kernel_rfl)) (by decide) (fun K hK => ?_)
               refine goes_ Try.func118 (by kernel_rfl) rfl #[.int .i64 t1129, .int .i64 x11_2, .int .i64 (rd l0_1 (rd t1123 x42_2))] (by rfl) rfl rfl ZA ?_
               with_reducible refine (impl_field_mul.calls t1129 x11_2 (rd l0_1 (rd t1123 x42_2)) t1137 _ A39.out).mono ?_
               rintro e w' ⟨rfl, ⟨nd, rfl⟩⟩
               refine ⟨_, rfl, ?_⟩
               refine hK.out _ _ ⟨(blk_cell BK1120.out 0).trans rfl, (blk_cell BK1120.out 1).trans rfl, (blk_cell BK1120.out 2).trans rfl, hHeld.2.2.2.1, ((HB.out.cell (World.block_lt_of_cell? w _ hw1136_0)).trans hw1136_0)⟩ (fun hHeld => ?_)
               clear hK K
               refine norm_ (a' := ?_) ?_ ?_
               rotate_left
               ·show Act.put _ (some 60) _ = _
                simp only [Act.put, List.setIfInBounds_toArray, List.set_cons_zero, List.set_cons_succ, i64_w, i32_w]
                rfl
               refine Zpt 11 (some 11) (h := ?_)
               refine done_ (done_of HT_.out (by kernel_rfl)) ?_
               try go_wp2
               go_roundg k2
               case measure => have := HJ7.out; have := HK2.out; omega
               case rel => exact ⟨(t1137), (wrap64 (x42_2 + 1)), (ZqS), (ZqS), H', ⟨by have := HJ7.out; have := HK2.out; omega⟩, ⟨ZR HO_8⟩, ⟨by (with_reducible repeat (first | apply Kd.V_alloc | apply Kd.V_drewN | apply Kd.V_drew)); exact HO_40.out⟩, ⟨ZK BK1120⟩, ⟨ZB⟩⟩
              ·rw [if_neg c38] at H
               exact absurd H (by simp)
             ·rw [if_neg c37] at H
              exact absurd H (by simp)
            ·rw [if_neg c36] at H
             exact absurd H (by simp)
           ·rw [if_neg c35] at H
            have c35b0 : ((rd y1131 x42_2) == 76) = false := beq_eq_false_iff_ne.mpr c35
            have c35b1 : ((rd y1131 x42_2) != 76) = true := bne_iff_ne.mpr c35
            by_cases c42 : (rd y1131 x42_2) = 68
            ·rw [if_pos c42] at H
             have c42b0 : ((rd y1131 x42_2) == 68) = true := beq_iff_eq.mpr c42
             have c42b1 : ((rd y1131 x42_2) != 68) = false := bne_eq_false_iff_eq.mpr c42
             clear c42
             by_cases c43 : x42_2 < (t1123.length : Int)
             ·rw [if_pos c43] at H
              have c43b0 : decide (x42_2 < (t1123.length : Int)) = true := decide_eq_true c43
              clear c43
              by_cases c44 : 0 ≤ (rd t1123 x42_2)
              ·rw [if_pos c44] at H
               have c44b0 : decide (0 ≤ (rd t1123 x42_2)) = true := decide_eq_true c44
               clear c44
               by_cases c45 : (rd t1123 x42_2) < (l0_2.length : Int)
               ·rw [if_pos c45] at H
                have c45b0 : decide ((rd t1123 x42_2) < (l0_2.length : Int)) = true := decide_eq_true c45
                clear c45
                replace H := Option.bind_eq_some_iff.mp H
                obtain ⟨t1140, A460, H⟩ := H
                try dsimp only at H
                have A46 := Aside0.mk A460
                clear A460
                have H' := Aside0.mk H
                clear H
                have p1134 : 0 ≤ (x42_2 : Int) := of_decide_eq_true (by first | (with_reducible assumption) | assumption)
                have q1134 : x42_2 < (y1131.length : Int) := of_decide_eq_true (by first | (with_reducible assumption) | assumption)
                obtain ⟨ad1134, e1134, hx1134_0⟩ := Kd.at_int (Kd.V_reads' HO_40.out).2.2 x42_2 p1134 q1134
                cases e1134
                replace p1134 := eq_true p1134
                replace q1134 := eq_true q1134
                try go_wp2
                have n0_ := Aside0.mk (Kd.R_drew HO_8.out)
                have n1_ := Aside0.mk (Kd.V_drew HO_40.out)
                have n2_ := Aside0.mk (blk_drew BK1120.out)
                have n3_ := Aside0.mk (below_drew1 HB.out)
                clear HO_8
                clear HO_40
                clear BK1120
                clear HB
                have HO_8 := n0_
                have HO_40 := n1_
                have BK1120 := n2_
                have HB := n3_
                clear n0_ n1_ n2_ n3_
                obtain ⟨Ao48, co48, eo48⟩ := Kd.R_slice HO_8.out
                (first | subst eo48 | (injection eo48 with f1_ f2_ f3_; have f4_ := f1_.symm; have f5_ := f3_.symm; clear f1_ f2_ f3_; subst f4_; subst f5_))
                have p1138 : 0 ≤ (x42_2 : Int) := of_decide_eq_true (by first | (with_reducible assumption) | assumption)
                have q1138 : x42_2 < (t1123.length : Int) := of_decide_eq_true (by first | (with_reducible assumption) | assumption)
                obtain ⟨ad1138, e1138, hx1138_0⟩ := Kd.at_int (Kd.R_reads' HO_8.out).2.2 x42_2 p1138 q1138
                cases e1138
                replace p1138 := eq_true p1138
                replace q1138 := eq_true q1138
                have p1139 : 0 ≤ ((rd t1123 x42_2) : Int) := of_decide_eq_true (by first | (with_reducible assumption) | assumption)
                have q1139 : (rd t1123 x42_2) < (l0_2.length : Int) := of_decide_eq_true (by first | (with_reducible assumption) | assumption)
                obtain ⟨ad1139, e1139, hx1139_0⟩ := Kd.at_int HR0_2.out (rd t1123 x42_2) p1139 q1139
                have hw1139_0 := hx1139_0
                cases e1139
                replace hx1139_0 := (HB.out.cell (World.block_lt_of_cell? w _ hx1139_0)).trans hx1139_0
                replace p1139 := eq_true p1139
                replace q1139 := eq_true q1139
                refine start_ (n := 12) (S := fun w' => w'.cell? ⟨gb1120, 0, none⟩ = some (.int .i64 a0_0) ∧ w'.cell? ⟨gb1120, 1, none⟩ = some (.slice A0_1 l0_1.length c0_1) ∧ w'.cell? ⟨gb1120, 2, none⟩ = some (.slice (some ad1139) l0_2.length c0_2) ∧ w'.cell? (ad1138.add (x42_2).toNat) = some (.int .i64 (rd t1123 x42_2)) ∧ w'.cell? (ad1139.add ((rd t1123 x42_2)).toNat) = some (.int .i64 (rd l0_2 (rd t1123 x42_2)))) (ds := []) #[false, false, false, false, false, false, false, false, false, false, false, false] (by kernel_rfl) rfl rfl ⟨(blk_cell BK1120.out 0).trans rfl, (blk_cell BK1120.out 1).trans rfl, (blk_cell BK1120.out 2).trans rfl, hx1138_0, ((HB.out.cell (World.block_lt_of_cell? w _ hw1139_0)).trans hw1139_0)⟩ (fun hHeld => ?_); refine with_tabW impl_WeightOfPath.tab15 impl_WeightOfPath.bits15 (fun HT_ HW_ => ?_)
                generalize wr.drew = w47 at HO_8 HO_40 BK1120 HB hx1138_0 hx1139_0 hHeld ⊢
                refine Zpt 0 (some 63) (h := ?_)
                refine Zpt 1 (some 64) (h := ?_)
                refine Zpt 2 (some 65) (h := ?_)
                refine Zpt 4 (some 67) (h := ?_)
                refine Zpt 5 (some 68) (h := ?_)
                refine Zpt 6 (some 69) (h := ?_)
                refine ZtW5 3 (some 66) hHeld (h := ?_)
                refine ZtW5 7 (some 70) hHeld (h := ?_)
                refine Zpt 8 (some 71) (h := ?_)
                refine ZtW5 9 (some 72) hHeld (h := ?_)
                refine one_ (i := 10) (N := some 73) #[true, true, true, true, true, true, true, true, true, true, true, false] rfl rfl (one_of HT_.out (by kernel_rfl)) (by decide) (fun K hK => ?_)
                refine goes_ Try.func118 (by kernel_rfl) rfl #[.int .i64 t1129, .int .i64 x11_2, .int .i64 (rd l0_2 (rd t1123 x42_2))] (by rfl) rfl rfl ZA ?_
                with_reducible refine (impl_field_mul.calls t1129 x11_2 (rd l0_2 (rd t1123 x42_2)) t1140 _ A46.out).mono ?_
                rintro e w' ⟨rfl, ⟨nd, rfl⟩⟩
                refine ⟨_, rfl, ?_⟩
                refine hK.out _ _ ⟨(blk_cell BK1120.out 0).trans rfl, (blk_cell BK1120.out 1).trans rfl, (blk_cell BK1120.out 2).trans rfl, hHeld.2.2.2.1, ((HB.out.cell (World.block_lt_of_cell? w _ hw1139_0)).trans hw1139_0)⟩ (fun hHeld => ?_)
                clear hK K
                refine norm_ (a' := ?_) ?_ ?_
                rotate_left
                ·show Act.put _ (some 73) _ = _
                 simp only [Act.put, List.setIfInBounds_toArray, List.set_cons_zero, List.set_cons_succ, i64_w, i32_w]
                 rfl
                refine Zpt 11 (some 11) (h := ?_)
                refine done_ (done_of HT_.out (by kernel_rfl)) ?_
                try go_wp2
                go_roundg k2
                case measure => have := HJ7.out; have := HK2.out; omega
                case rel => exact ⟨(t1140), (wrap64 (x42_2 + 1)), (ZqS), (ZqS), H', ⟨by have := HJ7.out; have := HK2.out; omega⟩, ⟨ZR HO_8⟩, ⟨by (with_reducible repeat (first | apply Kd.V_alloc | apply Kd.V_drewN | apply Kd.V_drew)); exact HO_40.out⟩, ⟨ZK BK1120⟩, ⟨ZB⟩⟩
               ·rw [if_neg c45] at H
                exact absurd H (by simp)
              ·rw [if_neg c44] at H
               exact absurd H (by simp)
             ·rw [if_neg c43] at H
              exact absurd H (by simp)
            ·rw [if_neg c42] at H
             have c42b0 : ((rd y1131 x42_2) == 68) = false := beq_eq_false_iff_ne.mpr c42
             have c42b1 : ((rd y1131 x42_2) != 68) = true := bne_iff_ne.mpr c42
             have H' := Aside0.mk H
             clear H
             have p1134 : 0 ≤ (x42_2 : Int) := of_decide_eq_true (by first | (with_reducible assumption) | assumption)
             have q1134 : x42_2 < (y1131.length : Int) := of_decide_eq_true (by first | (with_reducible assumption) | assumption)
             obtain ⟨ad1134, e1134, hx1134_0⟩ := Kd.at_int (Kd.V_reads' HO_40.out).2.2 x42_2 p1134 q1134
             cases e1134
             replace p1134 := eq_true p1134
             replace q1134 := eq_true q1134
             go_wp2
             go_roundg k2
             case measure => have := HJ7.out; have := HK2.out; omega
             case rel => exact ⟨(x11_2), (wrap64 (x42_2 + 1)), (ZqS), (ZqS), H', ⟨by have := HJ7.out; have := HK2.out; omega⟩, ⟨ZR HO_8⟩, ⟨by (with_reducible repeat (first | apply Kd.V_alloc | apply Kd.V_drewN | apply Kd.V_drew)); exact HO_40.out⟩, ⟨ZK BK1120⟩, ⟨ZB⟩⟩
          ·rw [if_neg c34] at H
           exact absurd H (by simp)
         ·rw [if_neg c33] at H
          exact absurd H (by simp)
        ·rw [if_neg c32] at H
         have c32b0 : decide (x42_2 < (y1131.length : Int)) = false := decide_eq_false c32
         clear c32
         simp only [Option.some.injEq, Prod.mk.injEq] at H
         obtain ⟨rfl, rfl⟩ := H
         go_wp2
         go_ret2
         exact ⟨ZqR, ZB⟩
     ·rw [if_neg c26] at H
      exact absurd H (by simp)
 ·replace c5 := Bool.eq_false_iff.mpr c5
  subst c5
  rw [if_neg (show ¬ (false = true) by decide)] at H
  simp only [Option.some.injEq, Prod.mk.injEq] at H
  obtain ⟨rfl, rfl⟩ := H
  go_enter Try.func38, Try.ntmps38
  go_wp2_with (first | ((with_reducible refine gate_dst (N := 3) rfl ?_); refine box_event ?hg (N := 3) ?hd (cs := #[.int .i64 a0_0, .slice A0_1 l0_1.length c0_1, .slice A0_2 l0_2.length c0_2]) (t := 26) ?hr ?_; (case hd => rfl); (case hg => rfl); (case hr => exact ZqT); intro gb1120 hg w49 hbox hb; have n0_ := Aside0.mk (below_step ZB hb); have n1_ := Aside0.mk (hbox); have n2_ := Aside0.mk ((ZG hg : w.heap.size ≤ gb1120)); have n3_ := Aside0.mk ((ZG hg : w.heap.size ≤ gb1120)); clear HB; have HB := n0_; have BK1120 := n1_; have GW1120 := n2_; have GE1120 := n3_; clear n0_ n1_ n2_ n3_; clear hb hbox hg; obtain ⟨hcz50_0, hcz50_1, hcz50_2, hfz50_0, hfz50_1, hfz50_2⟩ := ZD3 BK1120) | ((with_reducible refine gate_callee (f := 149) rfl ?_); refine goesL_ (some 15) rfl rfl Try.func149 (by kernel_rfl) rfl #[.agg #[.int .i64 a0_0, .slice A0_1 l0_1.length c0_1, .slice A0_2 l0_2.length c0_2]] rfl ZA ?_; (with_reducible refine (impl_IsJacobi.calls k a0_0 _ _ l0_1 _ _ l0_2 false _ ?side1 ?side2 ?side3 ?side4 A4.out).mono ?_); (case side1 => exact ZC HR0_1); (case side2 => exact HC0_1.out); (case side3 => exact ZC HR0_2); (case side4 => exact HC0_2.out); rintro e w51 ⟨rfl, hb⟩; refine ⟨_, rfl, ?_⟩; have n0_ := ZL BK1120 hb; have n1_ := Aside0.mk (below_step ZB hb); clear BK1120 HB; have BK1120 := n0_; have HB := n1_; clear n0_ n1_; (try clear hb)))
  go_ret2
  exact ⟨ZqR, ZB⟩

end Go.Proofs.Ytlodpobegdbhaaa.X
