/- Contracts of functions that the law reaches, printed by a program of this session; Lean checks them. -/
import Derived.Test.YtlodpobegdbhaaaCPathCountsX0
import Derived.Test.YtlodpobegdbhaaaCPathCountsX1
import Derived.Test.YtlodpobegdbhaaaCPathCountsX21
import Derived.Test.YtlodpobegdbhaaaCPathCountsX26
import Derived.Test.YtlodpobegdbhaaaCPathCountsX28
import Derived.Test.YtlodpobegdbhaaaCPathCountsX3
import Derived.Test.YtlodpobegdbhaaaCPathCountsXZ
namespace Go.Proofs.Ytlodpobegdbhaaa.X
open Go.RowKit Go.Proofs.YtlodpobegdbhaaaW.PrintWords Go.Proofs.YtlodpobegdbhaaaW.PrintLast Go.Proofs.YtlodpobegdbhaaaW.PrintMore
attribute [local go_sem] max2_int min2_int max_two min_two max_three min_three max_four min_four   -- for this text's walks alone
set_option linter.unusedVariables false
set_option linter.unusedSimpArgs false

/-! ### spec_DrawHeightsOf: function 44 -/
def spec_DrawHeightsOf.f (k : Nat) (l0 : List Int) : Option (ByteArray × Int) := (spec_l01From.f k l0).bind fun bt1196 => ((spec_l01Pick.f bt1196.1 bt1196.2.1 bt1196.2.2 (([2, 24] : List Int))).bind fun bt1203 => ((spec_l01Near.f bt1196.1 bt1203.2.1 bt1203.2.2 bt1203.1).bind fun bt1206 => ((spec_l01Pick.f bt1196.1 bt1206.2.1 bt1206.2.2 (([4, 10, 25] : List Int))).bind fun bt1212 => ((spec_l09DrawPath.f k bt1196.1 bt1212.2.1 bt1212.2.2 (mn (mx bt1206.1 0) 24) bt1212.1 100).bind fun bt1215 => (some (bt1215.1, bt1206.1))))))
theorem spec_DrawHeightsOf.mono : ∀ a0 k, LeO (spec_DrawHeightsOf.f k a0) (spec_DrawHeightsOf.f (k + 1) a0) := by
 intro a0 k
 unfold spec_DrawHeightsOf.f
 repeat' first
   | (with_reducible exact spec_l01From.mono _ _)
   | (with_reducible exact spec_l09DrawPath.mono _ _ _ _ _ _ _)
   | (with_reducible exact LeO.refl _)
   | (with_reducible exact LeO.none _)
   | (with_reducible refine LeO.ite ?_ ?_)
   | (with_reducible refine LeO.bind ?_ (fun _ => ?_))
   | exact spec_l01From.mono _ _
   | exact spec_l09DrawPath.mono _ _ _ _ _ _ _
   | exact LeO.none _
   | refine LeO.ite ?_ ?_
   | refine LeO.bind ?_ (fun _ => ?_)
set_option maxHeartbeats 8000000 in
set_option maxRecDepth 100000 in
theorem spec_DrawHeightsOf.calls (k : Nat) (A0 : Option Addr) (c0 : Nat) (l0 : List Int) (r1 : ByteArray) (r2 : Int) (w : World) (hr0 : Kd.C (Kd.int .u8) w A0 l0.length l0) (hc0 : l0.length ≤ c0) (h : spec_DrawHeightsOf.f k l0 = some (r1, r2)) :
  Calls Try.prog 44 #[.slice A0 l0.length c0] w fun e w' => e = .returned (.tuple #[.string r1, .int .i64 r2]) ∧ Below w.heap.size w w' := by
 have HR0 := Aside0.mk hr0
 have HC0 := Aside0.mk hc0
 clear hr0 hc0
 have HB := Aside0.mk (Below.refl w.heap.size w)
 have H : ((spec_l01From.f k l0).bind fun bt1196 => ((spec_l01Pick.f bt1196.1 bt1196.2.1 bt1196.2.2 (([2, 24] : List Int))).bind fun bt1203 => ((spec_l01Near.f bt1196.1 bt1203.2.1 bt1203.2.2 bt1203.1).bind fun bt1206 => ((spec_l01Pick.f bt1196.1 bt1206.2.1 bt1206.2.2 (([4, 10, 25] : List Int))).bind fun bt1212 => ((spec_l09DrawPath.f k bt1196.1 bt1212.2.1 bt1212.2.2 (mn (mx bt1206.1 0) 24) bt1212.1 100).bind fun bt1215 => (some (bt1215.1, bt1206.1))))))) = some (r1, r2) := h
 clear h
 replace H := Option.bind_eq_some_iff.mp H
 obtain ⟨⟨t1196, t1197, t1198⟩, A20, H⟩ := H
 try dsimp only at H
 have A2 := Aside0.mk A20
 clear A20
 obtain ⟨y1200, hy1200⟩ : ∃ y_ : List Int, y_ = (([2, 24] : List Int)) := ⟨_, rfl⟩
 replace H : ((spec_l01Pick.f t1196 t1197 t1198 y1200).bind fun bt1203 => ((spec_l01Near.f t1196 bt1203.2.1 bt1203.2.2 bt1203.1).bind fun bt1206 => ((spec_l01Pick.f t1196 bt1206.2.1 bt1206.2.2 (([4, 10, 25] : List Int))).bind fun bt1212 => ((spec_l09DrawPath.f k t1196 bt1212.2.1 bt1212.2.2 (mn (mx bt1206.1 0) 24) bt1212.1 100).bind fun bt1215 => (some (bt1215.1, bt1206.1)))))) = some (r1, r2) := by have hq_ := hy1200; exact ZqH
 have Ny1200 := Aside0.mk hy1200
 clear hy1200
 replace H := Option.bind_eq_some_iff.mp H
 obtain ⟨⟨t1203, t1204, t1205⟩, A30, H⟩ := H
 try dsimp only at H
 have A3 := Aside0.mk A30
 clear A30
 replace H := Option.bind_eq_some_iff.mp H
 obtain ⟨⟨t1206, t1207, t1208⟩, A40, H⟩ := H
 try dsimp only at H
 have A4 := Aside0.mk A40
 clear A40
 obtain ⟨ji5, hji5⟩ : ∃ j_ : Int, (mx t1206 0) = j_ := ⟨_, rfl⟩
 replace H : ((spec_l01Pick.f t1196 t1207 t1208 (([4, 10, 25] : List Int))).bind fun bt1212 => ((spec_l09DrawPath.f k t1196 bt1212.2.1 bt1212.2.2 (mn (ji5) 24) bt1212.1 100).bind fun bt1215 => (some (bt1215.1, t1206)))) = some (r1, r2) := by first | (rw [hji5] at H; exact H) | (simp only [hji5] at H ⊢; exact H)
 (try rw [hji5] at A2)
 (try rw [hji5] at A3)
 (try rw [hji5] at A4)
 (try (have hji5l : 0 ≤ ji5 := by (rw [← hji5]; unfold mx; (repeat' split) <;> omega)))
 (try (have hji5m : 0 ≤ ji5 := by omega))
 have hji5_ : (if t1206 < 0 then 0 else t1206) = ji5 := hji5
 obtain ⟨ji6, hji6⟩ : ∃ j_ : Int, (mn (ji5) 24) = j_ := ⟨_, rfl⟩
 replace H : ((spec_l01Pick.f t1196 t1207 t1208 (([4, 10, 25] : List Int))).bind fun bt1212 => ((spec_l09DrawPath.f k t1196 bt1212.2.1 bt1212.2.2 (ji6) bt1212.1 100).bind fun bt1215 => (some (bt1215.1, t1206)))) = some (r1, r2) := by first | (rw [hji6] at H; exact H) | (simp only [hji6] at H ⊢; exact H)
 (try rw [hji6] at A2)
 (try rw [hji6] at A3)
 (try rw [hji6] at A4)
 have hji6_ : (if 24 < (ji5) then 24 else (ji5)) = ji6 := hji6
 obtain ⟨y1209, hy1209⟩ : ∃ y_ : List Int, y_ = (([4, 10, 25] : List Int)) := ⟨_, rfl⟩
 replace H : ((spec_l01Pick.f t1196 t1207 t1208 y1209).bind fun bt1212 => ((spec_l09DrawPath.f k t1196 bt1212.2.1 bt1212.2.2 (ji6) bt1212.1 100).bind fun bt1215 => (some (bt1215.1, t1206)))) = some (r1, r2) := by have hq_ := hy1209; exact ZqH
 have Ny1209 := Aside0.mk hy1209
 clear hy1209
 replace H := Option.bind_eq_some_iff.mp H
 obtain ⟨⟨t1212, t1213, t1214⟩, A70, H⟩ := H
 try dsimp only at H
 have A7 := Aside0.mk A70
 clear A70
 replace H := Option.bind_eq_some_iff.mp H
 obtain ⟨⟨t1215, t1216, t1217⟩, A80, H⟩ := H
 try dsimp only at H
 have A8 := Aside0.mk A80
 clear A80
 simp only [Option.some.injEq, Prod.mk.injEq] at H
 obtain ⟨rfl, rfl⟩ := H
 go_enter Try.func44, Try.ntmps44
 go_wp2_with (first | ((with_reducible refine gate_callee (f := 121) rfl ?_); refine goesL_ (some 7) rfl rfl Try.func121 (by kernel_rfl) rfl #[.slice A0 l0.length c0] rfl ZA ?_; (with_reducible refine (spec_l01From.calls k _ _ l0 t1196 t1197 t1198 w _ ?side1 ?side2 ?side3 A2.out).mono ?_); (case side1 => exact Zq31); (case side2 => exact HR0.out); (case side3 => exact HC0.out); rintro e w9 ⟨g1199, rfl, hi, hb, hb2⟩; refine ⟨_, rfl, ?_⟩; have n0_ := Aside0.mk (hb); have n1_ := Aside0.mk (hi); clear HB; have HB := n0_; have HI1199 := n1_; clear n0_ n1_; (try clear hb); (try clear hb2); (try clear hi)) | ((with_reducible refine gate_dst (N := 10) rfl ?_); refine Kd.R_lit (Kd.int .i64) _ 2 ?hg (N := 10) ?hd (xs := ([2, 24] : List Int)) (inner := [.int .i64 2, .int .i64 24]) (ok := fun _ => True) (okp := fun _ => True) ?hr ?hp (fun _ hk => hk) trivial (Below.refl _ _) (Nat.le_refl _) (by simp) ?_; (case hd => rfl); (case hg => rfl); (case hr => exact ZqT); (case hp => exact (Reps.one (show Kd.M (Kd.int .i64) _ _ _ 2 [.int .i64 2] from rfl) (Reps.one (show Kd.M (Kd.int .i64) _ _ _ 24 [.int .i64 24] from rfl) (Reps.none _ _)))); intro v1201 w10 ho11 hb hg_ hnew_; clear hg_ hnew_; (first | rw [← Ny1200.out] at ho11 | (simp only [Int.reduceToNat] at ho11; rw [← Ny1200.out] at ho11)); have n0_ := Aside0.mk (Kd.R_lower ho11 (below_size (by exact Zq53))); have n1_ := Aside0.mk (IsS176.below (by exact Zq54) hb); have n2_ := Aside0.mk (below_step (by exact Zq53) hb); clear HI1199 HB; have HO1202 := n0_; have HI1199 := n1_; have HB := n2_; clear n0_ n1_ n2_; clear hb ho11; obtain ⟨Ao12, co12, eo12⟩ := Kd.R_slice HO1202.out; subst eo12) | ((with_reducible refine gate_callee (f := 136) rfl ?_); refine goesL_ (some 11) rfl rfl Try.func136 (by kernel_rfl) rfl #[.pointer (some ⟨g1199, 0, none⟩), .slice Ao12 y1200.length co12] rfl ZA ?_; (with_reducible refine (spec_l01Pick.calls g1199 t1196 t1197 t1198 _ _ y1200 t1203 t1204 t1205 w _ ?side1 ?side2 ?side3 ?side4 ?side5 A3.out).mono ?_); (case side1 => exact Zq54); (case side2 => exact Zq53); (case side3 => exact ZqC ((Kd.R_reads' HO1202.out).2.2)); (case side4 => exact (Kd.R_reads' HO1202.out).2.1); (case side5 => exact far_slice (IsS176.own_ne HI1199.out HO1202.out (by decide))); rintro e w13 ⟨rfl, hi, hb, hk⟩; refine ⟨_, rfl, ?_⟩; have n0_ := Aside0.mk (Kd.R_mono (Kd.R_keep (IsS176.apart (show IsS176 w _ g1199 t1196 t1197 t1198 from by exact Zq54) (ZR HO1202) (by decide)) hk (fun _ h => h.2)) (fun _ h => h.1)); have n1_ := Aside0.mk (hb); have n2_ := Aside0.mk (hi); clear HO1202 HB HI1199; have HO1202 := n0_; have HB := n1_; have HI1199 := n2_; clear n0_ n1_ n2_; (try clear hb); (try clear hk); (try clear hi)) | ((with_reducible refine gate_callee (f := 144) rfl ?_); refine goesL_ (some 12) rfl rfl Try.func144 (by kernel_rfl) rfl #[.pointer (some ⟨g1199, 0, none⟩), .int .i64 t1203] rfl ZA ?_; (with_reducible refine (spec_l01Near.calls g1199 t1196 t1204 t1205 t1203 t1206 t1207 t1208 w _ ?side1 ?side2 A4.out).mono ?_); (case side1 => exact Zq54); (case side2 => exact Zq53); rintro e w14 ⟨rfl, hi, hb, hk⟩; refine ⟨_, rfl, ?_⟩; have n0_ := Aside0.mk (Kd.R_mono (Kd.R_keep (IsS176.apart (show IsS176 w _ g1199 t1196 t1204 t1205 from by exact Zq54) (ZR HO1202) (by decide)) hk (fun _ h => h.2)) (fun _ h => h.1)); have n1_ := Aside0.mk (hb); have n2_ := Aside0.mk (hi); clear HO1202 HB HI1199; have HO1202 := n0_; have HB := n1_; have HI1199 := n2_; clear n0_ n1_ n2_; (try clear hb); (try clear hk); (try clear hi)) | ((with_reducible refine gate_dst (N := 18) rfl ?_); refine Kd.R_lit (Kd.int .i64) _ 2 ?hg (N := 18) ?hd (xs := ([4, 10, 25] : List Int)) (inner := [.int .i64 4, .int .i64 10, .int .i64 25]) (ok := fun _ => True) (okp := fun _ => True) ?hr ?hp (fun _ hk => hk) trivial (Below.refl _ _) (Nat.le_refl _) (by simp) ?_; (case hd => rfl); (case hg => rfl); (case hr => exact ZqT); (case hp => exact (Reps.one (show Kd.M (Kd.int .i64) _ _ _ 4 [.int .i64 4] from rfl) (Reps.one (show Kd.M (Kd.int .i64) _ _ _ 10 [.int .i64 10] from rfl) (Reps.one (show Kd.M (Kd.int .i64) _ _ _ 25 [.int .i64 25] from rfl) (Reps.none _ _))))); intro v1210 w15 ho16 hb hg_ hnew_; clear hg_ hnew_; (first | rw [← Ny1209.out] at ho16 | (simp only [Int.reduceToNat] at ho16; rw [← Ny1209.out] at ho16)); have n0_ := Aside0.mk (Kd.R_elder' (ZR HO1202) (Kd.R_base ho16) hb); have n1_ := Aside0.mk (Kd.R_lower (Kd.R_new' ho16 (Kd.R_lt (ZR HO1202))) (below_size (by exact Zq53))); have n2_ := Aside0.mk (IsS176.below (by exact Zq54) hb); have n3_ := Aside0.mk (below_step (by exact Zq53) hb); clear HO1202 HI1199 HB; have HO1202 := n0_; have HO1211 := n1_; have HI1199 := n2_; have HB := n3_; clear n0_ n1_ n2_ n3_; clear hb ho16; obtain ⟨Ao17, co17, eo17⟩ := Kd.R_slice HO1211.out; subst eo17) | ((with_reducible refine gate_callee (f := 136) rfl ?_); refine goesL_ (some 19) rfl rfl Try.func136 (by kernel_rfl) rfl #[.pointer (some ⟨g1199, 0, none⟩), .slice Ao17 y1209.length co17] rfl ZA ?_; (with_reducible refine (spec_l01Pick.calls g1199 t1196 t1207 t1208 _ _ y1209 t1212 t1213 t1214 w _ ?side1 ?side2 ?side3 ?side4 ?side5 A7.out).mono ?_); (case side1 => exact Zq54); (case side2 => exact Zq53); (case side3 => exact ZqC ((Kd.R_reads' HO1211.out).2.2)); (case side4 => exact (Kd.R_reads' HO1211.out).2.1); (case side5 => exact far_slice (IsS176.own_ne HI1199.out HO1211.out (by decide))); rintro e w18 ⟨rfl, hi, hb, hk⟩; refine ⟨_, rfl, ?_⟩; have n0_ := Aside0.mk (Kd.R_mono (Kd.R_keep (IsS176.apart (show IsS176 w _ g1199 t1196 t1207 t1208 from by exact Zq54) (ZR HO1202) (by decide)) hk (fun _ h => h.2)) (fun _ h => h.1)); have n1_ := Aside0.mk (Kd.R_mono (Kd.R_keep (IsS176.apart (show IsS176 w _ g1199 t1196 t1207 t1208 from by exact Zq54) (ZR HO1211) (by decide)) hk (fun _ h => h.2)) (fun _ h => h.1)); have n2_ := Aside0.mk (hb); have n3_ := Aside0.mk (hi); clear HO1202 HO1211 HB HI1199; have HO1202 := n0_; have HO1211 := n1_; have HB := n2_; have HI1199 := n3_; clear n0_ n1_ n2_ n3_; (try clear hb); (try clear hk); (try clear hi)) | ((with_reducible refine gate_callee (f := 145) rfl ?_); refine goesL_ (some 20) rfl rfl Try.func145 (by kernel_rfl) rfl #[.pointer (some ⟨g1199, 0, none⟩), .int .i64 ji6, .int .i64 t1212, .int .i64 100] rfl (by (try simp only [List.map_toArray, List.map_cons, List.map_nil]); first | done | (simp only [hji6]; rfl) | rfl | (simp only [List.length_drop, List.length_take]; rfl)) ?_; (with_reducible refine (spec_l09DrawPath.calls k g1199 t1196 t1213 t1214 ji6 t1212 100 t1215 t1216 t1217 w _ ?side1 ?side2 A8.out).mono ?_); (case side1 => exact Zq54); (case side2 => exact Zq53); rintro e w19 ⟨rfl, hi, hb, hk⟩; refine ⟨_, rfl, ?_⟩; have n0_ := Aside0.mk (Kd.R_mono (Kd.R_keep (IsS176.apart (show IsS176 w _ g1199 t1196 t1213 t1214 from by exact Zq54) (ZR HO1202) (by decide)) hk (fun _ h => h.2)) (fun _ h => h.1)); have n1_ := Aside0.mk (Kd.R_mono (Kd.R_keep (IsS176.apart (show IsS176 w _ g1199 t1196 t1213 t1214 from by exact Zq54) (ZR HO1211) (by decide)) hk (fun _ h => h.2)) (fun _ h => h.1)); have n2_ := Aside0.mk (hb); have n3_ := Aside0.mk (hi); clear HO1202 HO1211 HB HI1199; have HO1202 := n0_; have HO1211 := n1_; have HB := n2_; have HI1199 := n3_; clear n0_ n1_ n2_ n3_; (try clear hb); (try clear hk); (try clear hi)))
 go_ret2
 exact ⟨by first | rfl | (simp [errW_none, errW_some] <;> rfl) | (simp only [← hji5, ← hji6]; first | rfl | (simp [errW_none, errW_some] <;> rfl)) | (simp [*, errW_none, errW_some] <;> rfl), by exact Zq53⟩

/-! ### spec_HeightsOf: function 45 -/
def spec_HeightsOf.f (k : Nat) (a0 : ByteArray) (a1 : Int) : Option (List Int × Int) := (spec_l01In.f a1 0 24).bind fun t1218 => (if t1218 = true then ((spec_l09Heights.f k a0 a1).bind fun bt1219 => (if bt1219.2 = true then (some (bt1219.1, 0)) else (some (([] : List Int), 2)))) else (some (([] : List Int), 2)))
theorem spec_HeightsOf.mono : ∀ a0 a1 k, LeO (spec_HeightsOf.f k a0 a1) (spec_HeightsOf.f (k + 1) a0 a1) := by
 intro a0 a1 k
 unfold spec_HeightsOf.f
 repeat' first
   | (with_reducible exact spec_l09Heights.mono _ _ _)
   | (with_reducible exact LeO.refl _)
   | (with_reducible exact LeO.none _)
   | (with_reducible refine LeO.ite ?_ ?_)
   | (with_reducible refine LeO.bind ?_ (fun _ => ?_))
   | exact spec_l09Heights.mono _ _ _
   | exact LeO.none _
   | refine LeO.ite ?_ ?_
   | refine LeO.bind ?_ (fun _ => ?_)
set_option maxHeartbeats 8000000 in
set_option maxRecDepth 100000 in
theorem spec_HeightsOf.calls (k : Nat) (a0 : ByteArray) (a1 : Int) (r1 : List Int) (r2 : Int) (w : World) (h : spec_HeightsOf.f k a0 a1 = some (r1, r2)) :
  Calls Try.prog 45 #[.string a0, .int .i64 a1] w fun e w' => ∃ v0_ : Value, e = .returned (.tuple #[v0_, .int .i64 r2]) ∧ Kd.R (Kd.int .i64) 2 w' w.heap.size (fun _ => True) v0_ r1 ∧ Below w.heap.size w w' := by
 have HB := Aside0.mk (Below.refl w.heap.size w)
 have H : ((spec_l01In.f a1 0 24).bind fun t1218 => (if t1218 = true then ((spec_l09Heights.f k a0 a1).bind fun bt1219 => (if bt1219.2 = true then (some (bt1219.1, 0)) else (some (([] : List Int), 2)))) else (some (([] : List Int), 2)))) = some (r1, r2) := h
 clear h
 replace H := Option.bind_eq_some_iff.mp H
 obtain ⟨t1218, A30, H⟩ := H
 try dsimp only at H
 have A3 := Aside0.mk A30
 clear A30
 by_cases c4 : t1218 = true
 ·subst c4
  rw [if_pos rfl] at H
  replace H := Option.bind_eq_some_iff.mp H
  obtain ⟨⟨t1219, t1220⟩, A50, H⟩ := H
  try dsimp only at H
  have A5 := Aside0.mk A50
  clear A50
  by_cases c6 : t1220 = true
  ·subst c6
   rw [if_pos rfl] at H
   simp only [Option.some.injEq, Prod.mk.injEq] at H
   obtain ⟨rfl, rfl⟩ := H
   go_enter Try.func45, Try.ntmps45
   go_wp2_with (first | ((with_reducible refine gate_callee (f := 126) rfl ?_); refine goesL_ (some 9) rfl rfl Try.func126 (by kernel_rfl) rfl #[.int .i64 a1, .int .i64 0, .int .i64 24] rfl ZA ?_; (with_reducible refine (spec_l01In.calls a1 0 24 true _ A3.out).mono ?_); rintro e w' ⟨rfl, ⟨nd, rfl⟩⟩; refine ⟨_, rfl, ?_⟩) | ((with_reducible refine gate_callee (f := 147) rfl ?_); refine goesL_ (some 14) rfl rfl Try.func147 (by kernel_rfl) rfl #[.string a0, .int .i64 a1] rfl ZA ?_; (with_reducible refine (spec_l09Heights.calls k a0 a1 t1219 true _ A5.out).mono ?_); rintro e w7 ⟨v1221, rfl, ho0, hb⟩; refine ⟨_, rfl, ?_⟩; have n0_ := Aside0.mk (Kd.R_lower ho0 (below_size ZB)); have n1_ := Aside0.mk (below_step ZB hb); clear HB; have HO1222 := n0_; have HB := n1_; clear n0_ n1_; (try clear hb); (try clear ho0)))
   go_ret2
   exact ⟨_, ZqR, by refine ZQ ?_; exact HO1222.out, ZB⟩
  ·replace c6 := Bool.eq_false_iff.mpr c6
   subst c6
   rw [if_neg (show ¬ (false = true) by decide)] at H
   simp only [Option.some.injEq, Prod.mk.injEq] at H
   obtain ⟨rfl, rfl⟩ := H
   go_enter Try.func45, Try.ntmps45
   go_wp2_with (first | ((with_reducible refine gate_callee (f := 126) rfl ?_); refine goesL_ (some 9) rfl rfl Try.func126 (by kernel_rfl) rfl #[.int .i64 a1, .int .i64 0, .int .i64 24] rfl ZA ?_; (with_reducible refine (spec_l01In.calls a1 0 24 true _ A3.out).mono ?_); rintro e w' ⟨rfl, ⟨nd, rfl⟩⟩; refine ⟨_, rfl, ?_⟩) | ((with_reducible refine gate_callee (f := 147) rfl ?_); refine goesL_ (some 14) rfl rfl Try.func147 (by kernel_rfl) rfl #[.string a0, .int .i64 a1] rfl ZA ?_; (with_reducible refine (spec_l09Heights.calls k a0 a1 t1219 false _ A5.out).mono ?_); rintro e w8 ⟨v1221, rfl, ho0, hb⟩; refine ⟨_, rfl, ?_⟩; have n0_ := Aside0.mk (Kd.R_lower ho0 (below_size ZB)); have n1_ := Aside0.mk (below_step ZB hb); clear HB; have HO1222 := n0_; have HB := n1_; clear n0_ n1_; (try clear hb); (try clear ho0)))
   go_ret2
   exact ⟨_, ZqR, by first | exact Kd.R_nil _ _ _ _ _ | exact Kd.N_nil _ _ _ _ _ | exact Kd.V_nil _ _ _ _ _ | exact Kd.Q_nil _ _ _ _ _ | exact Kd.S_nil _ _ _ _ _, ZB⟩
 ·replace c4 := Bool.eq_false_iff.mpr c4
  subst c4
  rw [if_neg (show ¬ (false = true) by decide)] at H
  simp only [Option.some.injEq, Prod.mk.injEq] at H
  obtain ⟨rfl, rfl⟩ := H
  go_enter Try.func45, Try.ntmps45
  go_wp2_with (first | ((with_reducible refine gate_callee (f := 126) rfl ?_); refine goesL_ (some 9) rfl rfl Try.func126 (by kernel_rfl) rfl #[.int .i64 a1, .int .i64 0, .int .i64 24] rfl ZA ?_; (with_reducible refine (spec_l01In.calls a1 0 24 false _ A3.out).mono ?_); rintro e w' ⟨rfl, ⟨nd, rfl⟩⟩; refine ⟨_, rfl, ?_⟩))
  go_ret2
  exact ⟨_, ZqR, by first | exact Kd.R_nil _ _ _ _ _ | exact Kd.N_nil _ _ _ _ _ | exact Kd.V_nil _ _ _ _ _ | exact Kd.Q_nil _ _ _ _ _ | exact Kd.S_nil _ _ _ _ _, ZB⟩

end Go.Proofs.Ytlodpobegdbhaaa.X
