/- Contracts of functions that the law reaches, printed by a program of this session; Lean checks them. -/
import Derived.Test.YtlodpobegdbhaaaCPathCountsX0
import Derived.Test.YtlodpobegdbhaaaCPathCountsX1
import Derived.Test.YtlodpobegdbhaaaCPathCountsX21
import Derived.Test.YtlodpobegdbhaaaCPathCountsX26
import Derived.Test.YtlodpobegdbhaaaCPathCountsX3
import Derived.Test.YtlodpobegdbhaaaCPathCountsXZ
namespace Go.Proofs.Ytlodpobegdbhaaa.X
open Go.RowKit Go.Proofs.YtlodpobegdbhaaaW.PrintWords Go.Proofs.YtlodpobegdbhaaaW.PrintLast Go.Proofs.YtlodpobegdbhaaaW.PrintMore
attribute [local go_sem] max2_int min2_int max_two min_two max_three min_three max_four min_four   -- for this text's walks alone
set_option linter.unusedVariables false
set_option linter.unusedSimpArgs false

/-! ### spec_DrawWeightOfPath: function 37 -/
def spec_DrawWeightOfPath.f (k : Nat) (l0 : List Int) : Option (Int × List Int × List Int × ByteArray × Int) := (spec_l01From.f k l0).bind fun bt1092 => ((spec_l03Spoil.f k bt1092.1 bt1092.2.1 bt1092.2.2).bind fun bt1096 => ((spec_l01Near.f bt1092.1 bt1096.2.2.2.1 bt1096.2.2.2.2 (wrap64 ((bt1096.2.1.length : Int) - 1))).bind fun bt1106 => ((spec_l01Pick.f bt1092.1 bt1106.2.1 bt1106.2.2 (([4, 10, 25] : List Int))).bind fun bt1112 => ((spec_l09DrawPath.f k bt1092.1 bt1112.2.1 bt1112.2.2 (mn (mx bt1106.1 0) (wrap64 ((bt1096.2.1.length : Int) - 1))) bt1112.1 (bt1096.2.1.length : Int)).bind fun bt1115 => (some (bt1096.1, bt1096.2.1, bt1096.2.2.1, bt1115.1, bt1106.1))))))
theorem spec_DrawWeightOfPath.mono : ∀ a0 k, LeO (spec_DrawWeightOfPath.f k a0) (spec_DrawWeightOfPath.f (k + 1) a0) := by
 intro a0 k
 unfold spec_DrawWeightOfPath.f
 repeat' first
   | (with_reducible exact spec_l01From.mono _ _)
   | (with_reducible exact spec_l03Spoil.mono _ _ _ _)
   | (with_reducible exact spec_l09DrawPath.mono _ _ _ _ _ _ _)
   | (with_reducible exact LeO.refl _)
   | (with_reducible exact LeO.none _)
   | (with_reducible refine LeO.ite ?_ ?_)
   | (with_reducible refine LeO.bind ?_ (fun _ => ?_))
   | exact spec_l01From.mono _ _
   | exact spec_l03Spoil.mono _ _ _ _
   | exact spec_l09DrawPath.mono _ _ _ _ _ _ _
   | exact LeO.none _
   | refine LeO.ite ?_ ?_
   | refine LeO.bind ?_ (fun _ => ?_)
def spec_DrawWeightOfPath.T5 : Bool × List (List Nat × List Nat) := (true, [([], []), ([], []), ([], []), ([2], [2]), ([], []), ([4], [4]), ([3, 5], [3, 5]), ([], []), ([], []), ([7, 8], [7, 8]), ([], []), ([1, 6, 9, 10, 9], [1, 6, 9, 10]), ([], []), ([0, 11, 0], [0]), ([11, 13, 0, 1, 2, 3, 4, 5, 6, 7, 8, 9, 10, 11, 13], [11]), ([12, 14, 0, 1, 2, 3, 4, 5, 6, 7, 8, 9, 10, 11, 12, 13, 14], [12])])
def spec_DrawWeightOfPath.B5 : List Nat := [0, 0, 0, 4, 0, 16, 60, 0, 0, 384, 0, 2046, 0, 4095, 12287, 32767]
theorem spec_DrawWeightOfPath.tab5 : rtab .any (opsOf Try.f37 5) = spec_DrawWeightOfPath.T5 := by kernel_rfl
theorem spec_DrawWeightOfPath.bits5 : waitsOk spec_DrawWeightOfPath.T5.2 spec_DrawWeightOfPath.B5 = true := by kernel_rfl
set_option maxHeartbeats 8000000 in
set_option maxRecDepth 100000 in
theorem spec_DrawWeightOfPath.calls (k : Nat) (A0 : Option Addr) (c0 : Nat) (l0 : List Int) (r1 : Int) (r2 : List Int) (r3 : List Int) (r4 : ByteArray) (r5 : Int) (w : World) (hr0 : Kd.C (Kd.int .u8) w A0 l0.length l0) (hc0 : l0.length ≤ c0) (h : spec_DrawWeightOfPath.f k l0 = some (r1, r2, r3, r4, r5)) :
  Calls Try.prog 37 #[.slice A0 l0.length c0] w fun e w' => ∃ v1_ v2_ : Value, e = .returned (.tuple #[.agg #[.int .i64 r1, v1_, v2_], .string r4, .int .i64 r5]) ∧ Kd.R (Kd.int .i64) 2 w' w.heap.size (fun k_ => some k_ ≠ (v2_ : Value).ownBlock) v1_ r2 ∧ Kd.R (Kd.int .i64) 2 w' w.heap.size (fun k_ => some k_ ≠ (v1_ : Value).ownBlock) v2_ r3 ∧ Below w.heap.size w w' := by
 have hu26 := Try.underlying26
 have HR0 := Aside0.mk hr0
 have HC0 := Aside0.mk hc0
 clear hr0 hc0
 have HB := Aside0.mk (Below.refl w.heap.size w)
 have H : ((spec_l01From.f k l0).bind fun bt1092 => ((spec_l03Spoil.f k bt1092.1 bt1092.2.1 bt1092.2.2).bind fun bt1096 => ((spec_l01Near.f bt1092.1 bt1096.2.2.2.1 bt1096.2.2.2.2 (wrap64 ((bt1096.2.1.length : Int) - 1))).bind fun bt1106 => ((spec_l01Pick.f bt1092.1 bt1106.2.1 bt1106.2.2 (([4, 10, 25] : List Int))).bind fun bt1112 => ((spec_l09DrawPath.f k bt1092.1 bt1112.2.1 bt1112.2.2 (mn (mx bt1106.1 0) (wrap64 ((bt1096.2.1.length : Int) - 1))) bt1112.1 (bt1096.2.1.length : Int)).bind fun bt1115 => (some (bt1096.1, bt1096.2.1, bt1096.2.2.1, bt1115.1, bt1106.1))))))) = some (r1, r2, r3, r4, r5) := h
 clear h
 replace H := Option.bind_eq_some_iff.mp H
 obtain ⟨⟨t1092, t1093, t1094⟩, A20, H⟩ := H
 try dsimp only at H
 have A2 := Aside0.mk A20
 clear A20
 replace H := Option.bind_eq_some_iff.mp H
 obtain ⟨⟨t1096, t1097, t1100, t1103, t1104⟩, A30, H⟩ := H
 try dsimp only at H
 have A3 := Aside0.mk A30
 clear A30
 replace H := Option.bind_eq_some_iff.mp H
 obtain ⟨⟨t1106, t1107, t1108⟩, A40, H⟩ := H
 try dsimp only at H
 have A4 := Aside0.mk A40
 clear A40
 obtain ⟨ji5, hji5⟩ : ∃ j_ : Int, (mx t1106 0) = j_ := ⟨_, rfl⟩
 replace H : ((spec_l01Pick.f t1092 t1107 t1108 (([4, 10, 25] : List Int))).bind fun bt1112 => ((spec_l09DrawPath.f k t1092 bt1112.2.1 bt1112.2.2 (mn (ji5) (wrap64 ((t1097.length : Int) - 1))) bt1112.1 (t1097.length : Int)).bind fun bt1115 => (some (t1096, t1097, t1100, bt1115.1, t1106)))) = some (r1, r2, r3, r4, r5) := by first | (rw [hji5] at H; exact H) | (simp only [hji5] at H ⊢; exact H)
 (try rw [hji5] at A2)
 (try rw [hji5] at A3)
 (try rw [hji5] at A4)
 (try (have hji5l : 0 ≤ ji5 := by (rw [← hji5]; unfold mx; (repeat' split) <;> omega)))
 (try (have hji5m : 0 ≤ ji5 := by omega))
 have hji5_ : (if t1106 < 0 then 0 else t1106) = ji5 := hji5
 obtain ⟨ji6, hji6⟩ : ∃ j_ : Int, (mn (ji5) (wrap64 ((t1097.length : Int) - 1))) = j_ := ⟨_, rfl⟩
 replace H : ((spec_l01Pick.f t1092 t1107 t1108 (([4, 10, 25] : List Int))).bind fun bt1112 => ((spec_l09DrawPath.f k t1092 bt1112.2.1 bt1112.2.2 (ji6) bt1112.1 (t1097.length : Int)).bind fun bt1115 => (some (t1096, t1097, t1100, bt1115.1, t1106)))) = some (r1, r2, r3, r4, r5) := by first | (rw [hji6] at H; exact H) | (simp only [hji6] at H ⊢; exact H)
 (try rw [hji6] at A2)
 (try rw [hji6] at A3)
 (try rw [hji6] at A4)
 have hji6_ : (if (wrap64 ((t1097.length : Int) - 1)) < (ji5) then (wrap64 ((t1097.length : Int) - 1)) else (ji5)) = ji6 := hji6
 obtain ⟨y1109, hy1109⟩ : ∃ y_ : List Int, y_ = (([4, 10, 25] : List Int)) := ⟨_, rfl⟩
 replace H : ((spec_l01Pick.f t1092 t1107 t1108 y1109).bind fun bt1112 => ((spec_l09DrawPath.f k t1092 bt1112.2.1 bt1112.2.2 (ji6) bt1112.1 (t1097.length : Int)).bind fun bt1115 => (some (t1096, t1097, t1100, bt1115.1, t1106)))) = some (r1, r2, r3, r4, r5) := by have hq_ := hy1109; exact ZqH
 have Ny1109 := Aside0.mk hy1109
 clear hy1109
 replace H := Option.bind_eq_some_iff.mp H
 obtain ⟨⟨t1112, t1113, t1114⟩, A70, H⟩ := H
 try dsimp only at H
 have A7 := Aside0.mk A70
 clear A70
 replace H := Option.bind_eq_some_iff.mp H
 obtain ⟨⟨t1115, t1116, t1117⟩, A80, H⟩ := H
 try dsimp only at H
 have A8 := Aside0.mk A80
 clear A80
 simp only [Option.some.injEq, Prod.mk.injEq] at H
 obtain ⟨rfl, rfl, rfl, rfl, rfl⟩ := H
 go_enter Try.func37, Try.ntmps37
 try go_wp2_with (first | ((with_reducible refine gate_dst (N := 2) rfl ?_); refine box_event ?hg (N := 2) ?hd (cs := #[.int .i64 0, .slice none 0 0, .slice none 0 0]) (t := 26) ?hr ?_; (case hd => rfl); (case hg => rfl); (case hr => exact ZqT); intro gb1091 hg w9 hbox hb; have n0_ := Aside0.mk (below_step ZB hb); have n1_ := Aside0.mk (hbox); have n2_ := Aside0.mk ((ZG hg : w.heap.size ≤ gb1091)); have n3_ := Aside0.mk ((ZG hg : w.heap.size ≤ gb1091)); clear HB; have HB := n0_; have BK1091 := n1_; have GW1091 := n2_; have GE1091 := n3_; clear n0_ n1_ n2_ n3_; clear hb hbox hg) | ((with_reducible refine gate_callee (f := 121) rfl ?_); refine goesL_ (some 10) rfl rfl Try.func121 (by kernel_rfl) rfl #[.slice A0 l0.length c0] rfl ZA ?_; (with_reducible refine (spec_l01From.calls k _ _ l0 t1092 t1093 t1094 w _ ?side1 ?side2 ?side3 A2.out).mono ?_); (case side1 => exact Zq44); (case side2 => exact HR0.out); (case side3 => exact HC0.out); rintro e w10 ⟨g1095, rfl, hi, hb, hb2⟩; refine ⟨_, rfl, ?_⟩; have n0_ := Aside0.mk (blk_below (ZK BK1091) hb2); have n1_ := Aside0.mk (hb); have n2_ := Aside0.mk (hi); have n3_ := Aside0.mk (IsS176.ne_blk hi (blk_below (ZK BK1091) hb2) (by decide)); have n4_ := Aside0.mk (Ne.symm (IsS176.ne_blk hi (blk_below (ZK BK1091) hb2) (by decide))); clear BK1091 HB; have BK1091 := n0_; have HB := n1_; have HI1095 := n2_; have NB1095_1091 := n3_; have NB1091_1095 := n4_; clear n0_ n1_ n2_ n3_ n4_; (try clear hb); (try clear hb2); (try clear hi)) | ((with_reducible refine gate_callee (f := 148) rfl ?_); refine goesL_ (some 12) rfl rfl Try.func148 (by kernel_rfl) rfl #[.pointer (some ⟨g1095, 0, none⟩)] rfl ZA ?_; (with_reducible refine (spec_l03Spoil.calls k g1095 t1092 t1093 t1094 t1096 t1097 t1100 t1103 t1104 w _ ?side1 ?side2 A3.out).mono ?_); (case side1 => exact Zq45); (case side2 => exact Zq46); rintro e w11 ⟨v1098, v1101, rfl, ho0, ho1, hi, hb, hk⟩; refine ⟨_, rfl, ?_⟩; have n0_ := Aside0.mk (KeepBut.blk hk (g' := gb1091) (o := .cells #[.int .i64 0, .slice none 0 0, .slice none 0 0] 26 (0, 0)) (ZK BK1091) NB1091_1095.out (by simp)); have n1_ := Aside0.mk (Kd.R_lower ho0 (below_size (by exact Zq46))); have n2_ := Aside0.mk (Kd.R_lower ho1 (below_size (by exact Zq46))); have n3_ := Aside0.mk (hb); have n4_ := Aside0.mk (hi); clear BK1091 HB HI1095; have BK1091 := n0_; have HO1099 := n1_; have HO1102 := n2_; have HB := n3_; have HI1095 := n4_; clear n0_ n1_ n2_ n3_ n4_; (try clear hb); (try clear hk); (try clear hi); (try clear ho0); (try clear ho1)) | ((with_reducible refine gate_dst (N := 6) rfl ?_); refine box_event ?hg (N := 6) ?hd (cs := #[.int .i64 0, .slice none 0 0, .slice none 0 0]) (t := 26) ?hr ?_; (case hd => rfl); (case hg => rfl); (case hr => exact ZqT); intro gb1105 hg w12 hbox hb; have n0_ := Aside0.mk (Kd.R_below (ZR HO1099) hb); have n1_ := Aside0.mk (Kd.R_below (ZR HO1102) hb); have n2_ := ZL BK1091 hb; have n3_ := Aside0.mk (IsS176.below (by exact Zq45) hb); have n4_ := Aside0.mk (below_step (by exact Zq46) hb); have n5_ := Aside0.mk (hbox); have n6_ := Aside0.mk ((by rw [hg]; exact (below_size (by exact Zq46)) : w.heap.size ≤ gb1105)); have n7_ := Aside0.mk ((by rw [hg]; exact (below_size (by exact Zq46)) : w.heap.size ≤ gb1105)); have n8_ := Aside0.mk ((ZN hg BK1091 : gb1091 ≠ gb1105)); have n9_ := Aside0.mk ((ZM hg BK1091 : gb1105 ≠ gb1091)); have n10_ := Aside0.mk ((by rw [hg]; exact Nat.ne_of_lt (IsS176.lt (show IsS176 w _ g1095 t1092 t1103 t1104 from by exact Zq45)) : g1095 ≠ gb1105)); have n11_ := Aside0.mk ((by rw [hg]; exact Nat.ne_of_gt (IsS176.lt (show IsS176 w _ g1095 t1092 t1103 t1104 from by exact Zq45)) : gb1105 ≠ g1095)); clear HO1099 HO1102 BK1091 HI1095 HB; have HO1099 := n0_; have HO1102 := n1_; have BK1091 := n2_; have HI1095 := n3_; have HB := n4_; have BK1105 := n5_; have GW1105 := n6_; have GE1105 := n7_; have NB1091_1105 := n8_; have NB1105_1091 := n9_; have NB1095_1105 := n10_; have NB1105_1095 := n11_; clear n0_ n1_ n2_ n3_ n4_ n5_ n6_ n7_ n8_ n9_ n10_ n11_; clear hb hbox hg; have hnb13 := NB1105_1091.out; have hnc13 := NB1091_1105.out; have hnb14 := NB1105_1095.out; have hnc14 := NB1095_1105.out; obtain ⟨hcz15_0, hcz15_1, hcz15_2, hfz15_0, hfz15_1, hfz15_2⟩ := ZD3 BK1105; obtain ⟨Ao16, co16, eo16⟩ := Kd.R_slice HO1099.out; subst eo16; obtain ⟨Ao17, co17, eo17⟩ := Kd.R_slice HO1102.out; subst eo17) | ((with_reducible refine gate_callee (f := 144) rfl ?_); refine goesL_ (some 19) rfl rfl Try.func144 (by kernel_rfl) rfl #[.pointer (some ⟨g1095, 0, none⟩), .int .i64 (wrap64 ((t1097.length : Int) - 1))] rfl ZA ?_; (with_reducible refine (spec_l01Near.calls g1095 t1092 t1103 t1104 (wrap64 ((t1097.length : Int) - 1)) t1106 t1107 t1108 w _ ?side1 ?side2 A4.out).mono ?_); (case side1 => exact Zq47); (case side2 => exact Zq48); rintro e w18 ⟨rfl, hi, hb, hk⟩; refine ⟨_, rfl, ?_⟩; have n0_ := Aside0.mk (KeepBut.blk hk (g' := gb1091) (o := .cells #[.int .i64 0, .slice none 0 0, .slice none 0 0] 26 (0, 0)) (by refine ZS ?_; refine blk_far ?_ NB1091_1105.out _; refine ZS ?_; refine blk_far ?_ NB1091_1105.out _; refine ZS ?_; refine blk_far ?_ NB1091_1105.out _; refine ZS ?_; exact BK1091.out) NB1091_1095.out (by simp)); have n1_ := Aside0.mk (Kd.R_mono (Kd.R_keep (IsS176.apart (show IsS176 w _ g1095 t1092 t1103 t1104 from by exact Zq47) (ZQ (ZF3 HO1099 BK1105 (.int .i64 t1096) (.slice Ao16 t1097.length co16) (.slice Ao17 t1100.length co17))) (by decide)) hk (fun _ h => h.2)) (fun _ h => h.1)); have n2_ := Aside0.mk (Kd.R_mono (Kd.R_keep (IsS176.apart (show IsS176 w _ g1095 t1092 t1103 t1104 from by exact Zq47) (ZQ (ZF3 HO1102 BK1105 (.int .i64 t1096) (.slice Ao16 t1097.length co16) (.slice Ao17 t1100.length co17))) (by decide)) hk (fun _ h => h.2)) (fun _ h => h.1)); have n3_ := Aside0.mk (KeepBut.blk hk (g' := gb1105) (o := .cells #[.int .i64 t1096, .slice Ao16 t1097.length co16, .slice Ao17 t1100.length co17] 26 (0, 0)) (by refine ZS ?_; refine blk_put (cs := #[.int .i64 t1096, .slice Ao16 t1097.length co16, .slice none 0 0]) ?_ 2 _ rfl; refine ZS ?_; refine blk_put (cs := #[.int .i64 t1096, .slice none 0 0, .slice none 0 0]) ?_ 1 _ rfl; refine ZS ?_; refine blk_put (cs := #[.int .i64 0, .slice none 0 0, .slice none 0 0]) ?_ 0 _ rfl; refine ZS ?_; exact BK1105.out) NB1105_1095.out (by simp)); have n4_ := Aside0.mk (hb); have n5_ := Aside0.mk (hi); clear BK1091 HO1099 HO1102 BK1105 HB HI1095; have BK1091 := n0_; have HO1099 := n1_; have HO1102 := n2_; have BK1105 := n3_; have HB := n4_; have HI1095 := n5_; clear n0_ n1_ n2_ n3_ n4_ n5_; (try clear hb); (try clear hk); (try clear hi)))
 have n0_ := Aside0.mk (Kd.R_drew HO1099.out)
 have n1_ := Aside0.mk (Kd.R_drew HO1102.out)
 have n2_ := Aside0.mk (blk_drew BK1091.out)
 have n3_ := Aside0.mk (blk_drew BK1105.out)
 have n4_ := Aside0.mk (IsS176.drew HI1095.out)
 have n5_ := Aside0.mk (below_drew1 HB.out)
 clear HO1099
 clear HO1102
 clear BK1091
 clear BK1105
 clear HI1095
 clear HB
 have HO1099 := n0_
 have HO1102 := n1_
 have BK1091 := n2_
 have BK1105 := n3_
 have HI1095 := n4_
 have HB := n5_
 clear n0_ n1_ n2_ n3_ n4_ n5_
 refine start_ (n := 16) (S := fun w' => w'.cell? ⟨gb1105, 0, none⟩ = some (.int .i64 t1096) ∧ w'.cell? ⟨gb1105, 1, none⟩ = some (.slice Ao16 t1097.length co16) ∧ w'.cell? ⟨gb1105, 2, none⟩ = some (.slice Ao17 t1100.length co17)) (ds := []) #[false, false, false, false, false, false, false, false, false, false, false, false, false, false, false, false] (by kernel_rfl) rfl rfl ⟨(blk_cell BK1105.out 0).trans rfl, (blk_cell BK1105.out 1).trans rfl, (blk_cell BK1105.out 2).trans rfl⟩ (fun hHeld => ?_); refine with_tabW spec_DrawWeightOfPath.tab5 spec_DrawWeightOfPath.bits5 (fun HT_ HW_ => ?_)
 generalize w18.drew = w19 at HO1099 HO1102 BK1091 BK1105 HI1095 HB hHeld ⊢
 refine Zpt 1 (some 21) (h := ?_)
 refine Zpt 2 (some 22) (h := ?_)
 refine Zpt 3 (some 23) (h := ?_)
 refine Zpt 4 (some 24) (h := ?_)
 refine Zpt 5 (some 25) (h := ?_)
 refine Zpt 6 (some 26) (h := ?_)
 refine Zpt 7 (some 27) (h := ?_)
 refine Zpt 10 (some 30) (h := ?_)
 refine Zpt 12 (some 32) (h := ?_)
 refine ZtW3 0 (some 20) hHeld (h := ?_)
 refine one_ (i := 8) (N := some 28) #[true, true, true, true, true, true, true, true, true, false, true, false, true, false, false, false] rfl rfl (one_of HT_.out (by kernel_rfl)) (by decide) (fun K hK => ?_)
 refine Kd.R_lit_step (Kd.int .i64) _ 2 ?hg (N := 28) ?hd (xs := ([4, 10, 25] : List Int)) (inner := [.int .i64 4, .int .i64 10, .int .i64 25]) (ok := fun _ => True) (okp := fun _ => True) ?hr ?hp (fun _ hk => hk) trivial (Below.refl _ _) (Nat.le_refl _) (by simp) ?_; (case hd => rfl); (case hg => rfl); (case hr => exact ZqT); (case hp => exact (Reps.one (show Kd.M (Kd.int .i64) _ _ _ 4 [.int .i64 4] from rfl) (Reps.one (show Kd.M (Kd.int .i64) _ _ _ 10 [.int .i64 10] from rfl) (Reps.one (show Kd.M (Kd.int .i64) _ _ _ 25 [.int .i64 25] from rfl) (Reps.none _ _)))))
 intro v1110 w20 ho21 hb hg_ hnew_
 clear hg_ hnew_
 (first | rw [← Ny1109.out] at ho21 | (simp only [Int.reduceToNat] at ho21; rw [← Ny1109.out] at ho21))
 have n0_ := Aside0.mk (Kd.R_elder' (ZR HO1099) (Kd.R_base ho21) hb)
 have n1_ := Aside0.mk (Kd.R_elder' (ZR HO1102) (Kd.R_base ho21) hb)
 have n2_ := Aside0.mk (Kd.R_lower (Kd.R_new' (Kd.R_new' ho21 (Kd.R_lt (ZR HO1099))) (Kd.R_lt (ZR HO1102))) (below_size (by exact Zq48)))
 have n3_ := ZL BK1091 hb
 have n4_ := Aside0.mk (IsS176.below (by exact Zq47) hb)
 have n5_ := ZL BK1105 hb
 have n6_ := Aside0.mk (below_step (by exact Zq48) hb)
 clear HO1099
 clear HO1102
 clear BK1091
 clear HI1095
 clear BK1105
 clear HB
 have HO1099 := n0_
 have HO1102 := n1_
 have HO1111 := n2_
 have BK1091 := n3_
 have HI1095 := n4_
 have BK1105 := n5_
 have HB := n6_
 clear n0_ n1_ n2_ n3_ n4_ n5_ n6_
 clear hb ho21
 obtain ⟨Ao22, co22, eo22⟩ := Kd.R_slice HO1111.out
 (first | subst eo22 | (injection eo22 with f1_ f2_ f3_; have f4_ := f1_.symm; have f5_ := f3_.symm; clear f1_ f2_ f3_; subst f4_; subst f5_))
 refine hK.out _ _ ⟨(blk_cell BK1105.out 0).trans rfl, (blk_cell BK1105.out 1).trans rfl, (blk_cell BK1105.out 2).trans rfl⟩ (fun hHeld => ?_)
 clear hK K
 refine norm_ (a' := ?_) ?_ ?_
 rotate_left
 ·show Act.put _ (some 28) _ = _
  simp only [Act.put, List.setIfInBounds_toArray, List.set_cons_zero, List.set_cons_succ, i64_w, i32_w]
  rfl
 refine one_ (i := 9) (N := some 29) #[true, true, true, true, true, true, true, true, true, true, true, false, true, false, false, false] rfl rfl (one_of HT_.out (by kernel_rfl)) (by decide) (fun K hK => ?_)
 refine goes_ Try.func136 (by kernel_rfl) rfl #[.pointer (some ⟨g1095, 0, none⟩), .slice Ao22 y1109.length co22] (by rfl) rfl rfl ZA ?_
 with_reducible refine (spec_l01Pick.calls g1095 t1092 t1107 t1108 _ _ y1109 t1112 t1113 t1114 w _ ?side1 ?side2 ?side3 ?side4 ?side5 A7.out).mono ?_
 (case side1 => exact Zq47)
 (case side2 => exact Zq48)
 (case side3 => exact ZqC ((Kd.R_reads' HO1111.out).2.2))
 (case side4 => exact (Kd.R_reads' HO1111.out).2.1)
 (case side5 => exact far_slice (IsS176.own_ne HI1095.out HO1111.out (by decide)))
 rintro e w23 ⟨rfl, hi, hb, hk⟩
 refine ⟨_, rfl, ?_⟩
 have n0_ := Aside0.mk (KeepBut.blk hk (g' := gb1091) (o := .cells #[.int .i64 0, .slice none 0 0, .slice none 0 0] 26 (0, 0)) (ZK BK1091) NB1091_1095.out (by simp))
 have n1_ := Aside0.mk (Kd.R_mono (Kd.R_keep (IsS176.apart (show IsS176 w _ g1095 t1092 t1107 t1108 from by exact Zq47) (ZR HO1099) (by decide)) hk (fun _ h => h.2)) (fun _ h => h.1))
 have n2_ := Aside0.mk (Kd.R_mono (Kd.R_keep (IsS176.apart (show IsS176 w _ g1095 t1092 t1107 t1108 from by exact Zq47) (ZR HO1102) (by decide)) hk (fun _ h => h.2)) (fun _ h => h.1))
 have n3_ := Aside0.mk (KeepBut.blk hk (g' := gb1105) (o := .cells #[.int .i64 t1096, .slice Ao16 t1097.length co16, .slice Ao17 t1100.length co17] 26 (0, 0)) (ZK BK1105) NB1105_1095.out (by simp))
 have n4_ := Aside0.mk (Kd.R_mono (Kd.R_keep (IsS176.apart (show IsS176 w _ g1095 t1092 t1107 t1108 from by exact Zq47) (ZR HO1111) (by decide)) hk (fun _ h => h.2)) (fun _ h => h.1))
 have n5_ := Aside0.mk (hb)
 have n6_ := Aside0.mk (hi)
 clear BK1091
 clear HO1099
 clear HO1102
 clear BK1105
 clear HO1111
 clear HB
 clear HI1095
 have BK1091 := n0_
 have HO1099 := n1_
 have HO1102 := n2_
 have BK1105 := n3_
 have HO1111 := n4_
 have HB := n5_
 have HI1095 := n6_
 clear n0_ n1_ n2_ n3_ n4_ n5_ n6_
 (try clear hb)
 (try clear hb2)
 (try clear hk)
 (try clear hi)
 refine hK.out _ _ ⟨(blk_cell BK1105.out 0).trans rfl, (blk_cell BK1105.out 1).trans rfl, (blk_cell BK1105.out 2).trans rfl⟩ (fun hHeld => ?_)
 clear hK K
 refine norm_ (a' := ?_) ?_ ?_
 rotate_left
 ·show Act.put _ (some 29) _ = _
  simp only [Act.put, List.setIfInBounds_toArray, List.set_cons_zero, List.set_cons_succ, i64_w, i32_w]
  rfl
 refine one_ (i := 11) (N := some 31) #[true, true, true, true, true, true, true, true, true, true, true, true, true, false, false, false] rfl rfl (one_of HT_.out (by kernel_rfl)) (by decide) (fun K hK => ?_)
 refine goes_ Try.func145 (by kernel_rfl) rfl #[.pointer (some ⟨g1095, 0, none⟩), .int .i64 ji6, .int .i64 t1112, .int .i64 (t1097.length : Int)] (by rfl) rfl rfl (by (try simp only [List.map_toArray, List.map_cons, List.map_nil]); first | done | (simp only [hji6]; rfl) | rfl | (simp only [List.length_drop, List.length_take]; rfl)) ?_
 with_reducible refine (spec_l09DrawPath.calls k g1095 t1092 t1113 t1114 ji6 t1112 (t1097.length : Int) t1115 t1116 t1117 w _ ?side1 ?side2 A8.out).mono ?_
 (case side1 => exact Zq47)
 (case side2 => exact Zq48)
 rintro e w24 ⟨rfl, hi, hb, hk⟩
 refine ⟨_, rfl, ?_⟩
 have n0_ := Aside0.mk (KeepBut.blk hk (g' := gb1091) (o := .cells #[.int .i64 0, .slice none 0 0, .slice none 0 0] 26 (0, 0)) (ZK BK1091) NB1091_1095.out (by simp))
 have n1_ := Aside0.mk (Kd.R_mono (Kd.R_keep (IsS176.apart (show IsS176 w _ g1095 t1092 t1113 t1114 from by exact Zq47) (ZR HO1099) (by decide)) hk (fun _ h => h.2)) (fun _ h => h.1))
 have n2_ := Aside0.mk (Kd.R_mono (Kd.R_keep (IsS176.apart (show IsS176 w _ g1095 t1092 t1113 t1114 from by exact Zq47) (ZR HO1102) (by decide)) hk (fun _ h => h.2)) (fun _ h => h.1))
 have n3_ := Aside0.mk (KeepBut.blk hk (g' := gb1105) (o := .cells #[.int .i64 t1096, .slice Ao16 t1097.length co16, .slice Ao17 t1100.length co17] 26 (0, 0)) (ZK BK1105) NB1105_1095.out (by simp))
 have n4_ := Aside0.mk (Kd.R_mono (Kd.R_keep (IsS176.apart (show IsS176 w _ g1095 t1092 t1113 t1114 from by exact Zq47) (ZR HO1111) (by decide)) hk (fun _ h => h.2)) (fun _ h => h.1))
 have n5_ := Aside0.mk (hb)
 have n6_ := Aside0.mk (hi)
 clear BK1091
 clear HO1099
 clear HO1102
 clear BK1105
 clear HO1111
 clear HB
 clear HI1095
 have BK1091 := n0_
 have HO1099 := n1_
 have HO1102 := n2_
 have BK1105 := n3_
 have HO1111 := n4_
 have HB := n5_
 have HI1095 := n6_
 clear n0_ n1_ n2_ n3_ n4_ n5_ n6_
 (try clear hb)
 (try clear hb2)
 (try clear hk)
 (try clear hi)
 refine hK.out _ _ ⟨(blk_cell BK1105.out 0).trans rfl, (blk_cell BK1105.out 1).trans rfl, (blk_cell BK1105.out 2).trans rfl⟩ (fun hHeld => ?_)
 clear hK K
 refine norm_ (a' := ?_) ?_ ?_
 rotate_left
 ·show Act.put _ (some 31) _ = _
  simp only [Act.put, List.setIfInBounds_toArray, List.set_cons_zero, List.set_cons_succ, i64_w, i32_w]
  rfl
 refine one_ (i := 13) (N := none) #[true, true, true, true, true, true, true, true, true, true, true, true, true, true, false, false] rfl rfl (one_of HT_.out (by kernel_rfl)) (by decide) (fun K hK => ?_)
 have hs25 : w24.cell? ⟨gb1091, 0, none⟩ = some (.int .i64 0) := (blk_cell BK1091.out 0).trans rfl
 have hfs25 := blk_frozen BK1091.out 0
 have hns25_1 := NB1105_1091.out
 have hms25_1 := NB1091_1105.out
 have hs26 : w24.cell? ⟨gb1091, 1, none⟩ = some (.slice none 0 0) := (blk_cell BK1091.out 1).trans rfl
 have hfs26 := blk_frozen BK1091.out 1
 have hns26_1 := NB1105_1091.out
 have hms26_1 := NB1091_1105.out
 have hs27 : w24.cell? ⟨gb1091, 2, none⟩ = some (.slice none 0 0) := (blk_cell BK1091.out 2).trans rfl
 have hfs27 := blk_frozen BK1091.out 2
 have hns27_1 := NB1105_1091.out
 have hms27_1 := NB1091_1105.out
 refine skip_ (w1 := ?_) (by rfl) rfl ?_ ?_
 rotate_left
 ·go_simp
  rfl
 refine hK.out _ _ ⟨((cell_far (p := ⟨gb1091, _, none⟩) NB1105_1091.out _).trans (((cell_far (p := ⟨gb1091, _, none⟩) NB1105_1091.out _).trans (((cell_far (p := ⟨gb1091, _, none⟩) NB1105_1091.out _).trans (hHeld.1)))))), ((cell_far (p := ⟨gb1091, _, none⟩) NB1105_1091.out _).trans (((cell_far (p := ⟨gb1091, _, none⟩) NB1105_1091.out _).trans (((cell_far (p := ⟨gb1091, _, none⟩) NB1105_1091.out _).trans (hHeld.2.1)))))), ((cell_far (p := ⟨gb1091, _, none⟩) NB1105_1091.out _).trans (((cell_far (p := ⟨gb1091, _, none⟩) NB1105_1091.out _).trans (((cell_far (p := ⟨gb1091, _, none⟩) NB1105_1091.out _).trans (hHeld.2.2))))))⟩ (fun hHeld => ?_)
 clear hK K
 refine Zpt 14 (some 3) (h := ?_)
 refine Zpt 15 (some 4) (h := ?_)
 refine done_ (done_of HT_.out (by kernel_rfl)) ?_
 try go_wp2
 refine bodyPost_ret (results_ctt rfl _ _ gb1091 26 #[.int .i64 t1096, .slice Ao16 t1097.length co16, .slice Ao17 t1100.length co17] (0, 0) _ rfl (by refine ZS ?_; refine blk_put (cs := #[.int .i64 t1096, .slice Ao16 t1097.length co16, .slice none 0 0]) ?_ 2 _ rfl; refine ZS ?_; refine blk_put (cs := #[.int .i64 t1096, .slice none 0 0, .slice none 0 0]) ?_ 1 _ rfl; refine ZS ?_; refine blk_put (cs := #[.int .i64 0, .slice none 0 0, .slice none 0 0]) ?_ 0 _ rfl; refine ZS ?_; exact BK1091.out) Try.underlying26 rfl (by kernel_rfl)) rfl ?_
 exact ⟨_, _, by first | rfl | (simp [errW_none, errW_some] <;> rfl) | (simp only [← hji5, ← hji6]; first | rfl | (simp [errW_none, errW_some] <;> rfl)) | (simp [*, errW_none, errW_some] <;> rfl), by refine ZQ ?_; exact Kd.R_mono (Kd.R_far (p := ⟨gb1091, 2, none⟩) (Kd.R_far (p := ⟨gb1091, 1, none⟩) (Kd.R_far (p := ⟨gb1091, 0, none⟩) (Kd.R_types HO1099.out BK1091.out (by decide)) (fun _ hk => hk.2) (.int .i64 t1096)) (fun _ hk => hk.2) (.slice Ao16 t1097.length co16)) (fun _ hk => hk.2) (.slice Ao17 t1100.length co17)) (fun _ hk => hk.1.1), by refine ZQ ?_; exact Kd.R_mono (Kd.R_far (p := ⟨gb1091, 2, none⟩) (Kd.R_far (p := ⟨gb1091, 1, none⟩) (Kd.R_far (p := ⟨gb1091, 0, none⟩) (Kd.R_types HO1102.out BK1091.out (by decide)) (fun _ hk => hk.2) (.int .i64 t1096)) (fun _ hk => hk.2) (.slice Ao16 t1097.length co16)) (fun _ hk => hk.2) (.slice Ao17 t1100.length co17)) (fun _ hk => hk.1.1), by exact Zq48⟩

/-! ### slices_Max_int64_int64: function 150 -/
def slices_Max_int64_int64.l0 : Nat → List Int → Int → Int → Option (Int)
 | 0, _, _, _ => none
 | k + 1, x0, x3, x4 => if x4 < (x0.length : Int) then (if 0 ≤ x4 then (slices_Max_int64_int64.l0 k x0 (mx x3 (rd x0 x4)) (wrap64 (x4 + 1))) else (none)) else (some x3)
def slices_Max_int64_int64.f (k : Nat) (l0 : List Int) : Option (Int) := if (l0.length : Int) < 1 then (none) else (if 0 < (l0.length : Int) then (slices_Max_int64_int64.l0 k l0 (rd l0 0) 1) else (none))
theorem slices_Max_int64_int64.mono_l : ∀ k, (∀ y0 y1 y2, LeO (slices_Max_int64_int64.l0 k y0 y1 y2) (slices_Max_int64_int64.l0 (k + 1) y0 y1 y2))
 | 0 => fun _ _ _ r h => by simp [slices_Max_int64_int64.l0] at h
 | k + 1 => by
  have ih0 := slices_Max_int64_int64.mono_l k
  ·intro y0 y1 y2
   unfold slices_Max_int64_int64.l0
   repeat' first
   | (with_reducible exact ih0 _ _ _)
   | (with_reducible exact LeO.refl _)
   | (with_reducible exact LeO.none _)
   | (with_reducible refine LeO.ite ?_ ?_)
   | (with_reducible refine LeO.bind ?_ (fun _ => ?_))
   | exact ih0 _ _ _
   | exact LeO.none _
   | refine LeO.ite ?_ ?_
   | refine LeO.bind ?_ (fun _ => ?_)
theorem slices_Max_int64_int64.mono : ∀ a0 k, LeO (slices_Max_int64_int64.f k a0) (slices_Max_int64_int64.f (k + 1) a0) := by
 intro a0 k
 have ih0 := slices_Max_int64_int64.mono_l k
 unfold slices_Max_int64_int64.f
 repeat' first
   | (with_reducible exact ih0 _ _ _)
   | (with_reducible exact LeO.refl _)
   | (with_reducible exact LeO.none _)
   | (with_reducible refine LeO.ite ?_ ?_)
   | (with_reducible refine LeO.bind ?_ (fun _ => ?_))
   | exact ih0 _ _ _
   | exact LeO.none _
   | refine LeO.ite ?_ ?_
   | refine LeO.bind ?_ (fun _ => ?_)
set_option maxHeartbeats 8000000 in
set_option maxRecDepth 100000 in
theorem slices_Max_int64_int64.calls (k : Nat) (A0 : Option Addr) (c0 : Nat) (l0 : List Int) (r : Int) (w : World) (hr0 : Kd.C (Kd.int .i64) w A0 l0.length l0) (hc0 : l0.length ≤ c0) (h : slices_Max_int64_int64.f k l0 = some r) :
  Calls Try.prog 150 #[.slice A0 l0.length c0] w fun e w' => e = .returned (.int .i64 r) ∧ Below w.heap.size w w' := by
 have HR0 := Aside0.mk hr0
 have HC0 := Aside0.mk hc0
 clear hr0 hc0
 have HB := Aside0.mk (Below.refl w.heap.size w)
 have H : (if (l0.length : Int) < 1 then (none) else (if 0 < (l0.length : Int) then (slices_Max_int64_int64.l0 k l0 (rd l0 0) 1) else (none))) = some r := h
 clear h
 by_cases c2 : (l0.length : Int) < 1
 ·rw [if_pos c2] at H
  exact absurd H (by simp)
 ·rw [if_neg c2] at H
  have c2b0 : decide ((l0.length : Int) < 1) = false := decide_eq_false c2
  have c2b1 : decide (l0.length < 1) = false := decide_eq_false (by omega)
  clear c2
  by_cases c3 : 0 < (l0.length : Int)
  ·rw [if_pos c3] at H
   have c3b0 : decide (0 < (l0.length : Int)) = true := decide_eq_true c3
   have c3b1 : decide (0 < l0.length) = true := decide_eq_true (by omega)
   clear c3
   have H' := Aside0.mk H
   clear H
   have p1118 : 0 ≤ (0 : Int) := (by omega)
   have q1118 : 0 < (l0.length : Int) := of_decide_eq_true (by first | (with_reducible assumption) | assumption)
   obtain ⟨ad1118, e1118, hx1118_0⟩ := Kd.at_int HR0.out 0 p1118 q1118
   cases e1118
   have qi1118 : (0 < l0.length) = True := eq_true (by omega)
   (try rw [show ((0 : Int)).toNat = 0 from rfl] at hx1118_0)
   (try rw [Addr.add_zero'] at hx1118_0)
   replace p1118 := eq_true p1118
   replace q1118 := eq_true q1118
   go_enter Try.func150, Try.ntmps150
   go_wp2
   go_loopg [3, 4] k (fun kq v3 v4 w' => ∃ (x3_1 : Int) (x4_1 : Int), v3 = .int .i64 x3_1 ∧ v4 = .int .i64 x4_1 ∧ Aside0 (slices_Max_int64_int64.l0 kq l0 x3_1 x4_1 = some r) ∧ Aside0 (kq ≤ k) ∧ Aside0 (Below w.heap.size w w'))
   case atStart => exact ⟨(rd l0 0), (1), (ZqS), (ZqS), H', ⟨Nat.le_refl _⟩, ⟨ZB⟩⟩
   case round =>
    clear H'
    try clear c1
    try clear p1
    try clear q1
    try clear hx1
    try clear qi1
    try clear c2
    try clear c2b0
    try clear c2b1
    try clear p2
    try clear c3
    try clear c3b0
    try clear c3b1
    try clear hx1118_0
    try clear p1118
    try clear q1118
    obtain ⟨x3_1, x4_1, rfl, rfl, HA, HK1, HB⟩ := hrel
    cases gk with
    | zero => exact absurd HA.out (by simp [slices_Max_int64_int64.l0])
    | succ k1 =>
     have H := HA.out
     clear HA
     simp only [slices_Max_int64_int64.l0] at H
     by_cases c4 : x4_1 < (l0.length : Int)
     ·rw [if_pos c4] at H
      have c4b0 : decide (x4_1 < (l0.length : Int)) = true := decide_eq_true c4
      clear c4
      by_cases c5 : 0 ≤ x4_1
      ·rw [if_pos c5] at H
       have c5b0 : decide (0 ≤ x4_1) = true := decide_eq_true c5
       clear c5
       obtain ⟨ji6, hji6⟩ : ∃ j_ : Int, (mx x3_1 (rd l0 x4_1)) = j_ := ⟨_, rfl⟩
       replace H : (slices_Max_int64_int64.l0 k1 l0 ji6 (wrap64 (x4_1 + 1))) = some r := by first | (rw [hji6] at H; exact H) | (simp only [hji6] at H ⊢; exact H)
       have hji6_ : (if x3_1 < (rd l0 x4_1) then (rd l0 x4_1) else x3_1) = ji6 := hji6
       have H' := Aside0.mk H
       clear H
       have p1119 : 0 ≤ (x4_1 : Int) := of_decide_eq_true (by first | (with_reducible assumption) | assumption)
       have q1119 : x4_1 < (l0.length : Int) := of_decide_eq_true (by first | (with_reducible assumption) | assumption)
       obtain ⟨ad1119, e1119, hx1119_0⟩ := Kd.at_int HR0.out x4_1 p1119 q1119
       obtain rfl : ad1118 = ad1119 := (by injection e1119)
       replace hx1119_0 := (HB.out.cell (World.block_lt_of_cell? w _ hx1119_0)).trans hx1119_0
       replace p1119 := eq_true p1119
       replace q1119 := eq_true q1119
       go_wp2
       go_roundg k1
       case measure => have := HK1.out; omega
       case rel => exact ⟨(ji6), (wrap64 (x4_1 + 1)), (by first | rfl | (simp; done) | (simp only [← hji6] <;> (first | rfl | simp)) | (simp [*]; done)), (ZqS), H', ⟨by have := HK1.out; omega⟩, ⟨ZB⟩⟩
      ·rw [if_neg c5] at H
       exact absurd H (by simp)
     ·rw [if_neg c4] at H
      have c4b0 : decide (x4_1 < (l0.length : Int)) = false := decide_eq_false c4
      clear c4
      obtain rfl := Option.some.inj H
      go_wp2
      go_ret
      exact ⟨ZqR, ZB⟩
  ·rw [if_neg c3] at H
   exact absurd H (by simp)

end Go.Proofs.Ytlodpobegdbhaaa.X
