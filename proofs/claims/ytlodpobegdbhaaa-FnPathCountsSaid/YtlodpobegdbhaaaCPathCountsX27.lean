/- Contracts of functions that the law reaches, printed by a program of this session; Lean checks them. -/
import Derived.Test.YtlodpobegdbhaaaCPathCountsX0
import Derived.Test.YtlodpobegdbhaaaCPathCountsX1
import Derived.Test.YtlodpobegdbhaaaCPathCountsX21
import Derived.Test.YtlodpobegdbhaaaCPathCountsX26
import Derived.Test.YtlodpobegdbhaaaCPathCountsXZ
namespace Go.Proofs.Ytlodpobegdbhaaa.X
open Go.RowKit Go.Proofs.YtlodpobegdbhaaaW.PrintWords Go.Proofs.YtlodpobegdbhaaaW.PrintLast Go.Proofs.YtlodpobegdbhaaaW.PrintMore
attribute [local go_sem] max2_int min2_int max_two min_two max_three min_three max_four min_four   -- for this text's walks alone
set_option linter.unusedVariables false
set_option linter.unusedSimpArgs false

/-! ### spec_DrawReversePath: function 31 -/
def spec_DrawReversePath.f (k : Nat) (l0 : List Int) : Option (ByteArray × Int) := (spec_l01From.f k l0).bind fun bt1012 => ((spec_l01Pick.f bt1012.1 bt1012.2.1 bt1012.2.2 (([2, 24] : List Int))).bind fun bt1019 => ((spec_l01Near.f bt1012.1 bt1019.2.1 bt1019.2.2 bt1019.1).bind fun bt1022 => ((spec_l01Pick.f bt1012.1 bt1022.2.1 bt1022.2.2 (([4, 10, 25] : List Int))).bind fun bt1028 => ((spec_l09DrawPath.f k bt1012.1 bt1028.2.1 bt1028.2.2 (mn (mx bt1022.1 0) 24) bt1028.1 100).bind fun bt1031 => (some (bt1031.1, bt1022.1))))))
theorem spec_DrawReversePath.mono : ∀ a0 k, LeO (spec_DrawReversePath.f k a0) (spec_DrawReversePath.f (k + 1) a0) := by
 intro a0 k
 unfold spec_DrawReversePath.f
 repeat' first
   | (with_reducible exact spec_l01From.mono _ _)
   | (with_reducible exact spec_l09DrawPath.mono _ _ _ _ _ _ _)
   | (with_reducible exact LeO.refl _)
   | (with_reducible exact LeO.none _)
   | (with_reducible refine LeO.ite ?_ ?_)
   | (with_reducible refine LeO.bind ?_ (fun _ => ?_))
   | exact spec_l01From.mono _ _
   | exact spec_l09DrawPath.mono _ _ _ _ _ _ _
   | exact LeO.none _
   | refine LeO.ite ?_ ?_
   | refine LeO.bind ?_ (fun _ => ?_)
set_option maxHeartbeats 8000000 in
set_option maxRecDepth 100000 in
theorem spec_DrawReversePath.calls (k : Nat) (A0 : Option Addr) (c0 : Nat) (l0 : List Int) (r1 : ByteArray) (r2 : Int) (w : World) (hr0 : Kd.C (Kd.int .u8) w A0 l0.length l0) (hc0 : l0.length ≤ c0) (h : spec_DrawReversePath.f k l0 = some (r1, r2)) :
  Calls Try.prog 31 #[.slice A0 l0.length c0] w fun e w' => e = .returned (.tuple #[.string r1, .int .i64 r2]) ∧ Below w.heap.size w w' := by
 have HR0 := Aside0.mk hr0
 have HC0 := Aside0.mk hc0
 clear hr0 hc0
 have HB := Aside0.mk (Below.refl w.heap.size w)
 have H : ((spec_l01From.f k l0).bind fun bt1012 => ((spec_l01Pick.f bt1012.1 bt1012.2.1 bt1012.2.2 (([2, 24] : List Int))).bind fun bt1019 => ((spec_l01Near.f bt1012.1 bt1019.2.1 bt1019.2.2 bt1019.1).bind fun bt1022 => ((spec_l01Pick.f bt1012.1 bt1022.2.1 bt1022.2.2 (([4, 10, 25] : List Int))).bind fun bt1028 => ((spec_l09DrawPath.f k bt1012.1 bt1028.2.1 bt1028.2.2 (mn (mx bt1022.1 0) 24) bt1028.1 100).bind fun bt1031 => (some (bt1031.1, bt1022.1))))))) = some (r1, r2) := h
 clear h
 replace H := Option.bind_eq_some_iff.mp H
 obtain ⟨⟨t1012, t1013, t1014⟩, A20, H⟩ := H
 try dsimp only at H
 have A2 := Aside0.mk A20
 clear A20
 obtain ⟨y1016, hy1016⟩ : ∃ y_ : List Int, y_ = (([2, 24] : List Int)) := ⟨_, rfl⟩
 replace H : ((spec_l01Pick.f t1012 t1013 t1014 y1016).bind fun bt1019 => ((spec_l01Near.f t1012 bt1019.2.1 bt1019.2.2 bt1019.1).bind fun bt1022 => ((spec_l01Pick.f t1012 bt1022.2.1 bt1022.2.2 (([4, 10, 25] : List Int))).bind fun bt1028 => ((spec_l09DrawPath.f k t1012 bt1028.2.1 bt1028.2.2 (mn (mx bt1022.1 0) 24) bt1028.1 100).bind fun bt1031 => (some (bt1031.1, bt1022.1)))))) = some (r1, r2) := by have hq_ := hy1016; exact ZqH
 have Ny1016 := Aside0.mk hy1016
 clear hy1016
 replace H := Option.bind_eq_some_iff.mp H
 obtain ⟨⟨t1019, t1020, t1021⟩, A30, H⟩ := H
 try dsimp only at H
 have A3 := Aside0.mk A30
 clear A30
 replace H := Option.bind_eq_some_iff.mp H
 obtain ⟨⟨t1022, t1023, t1024⟩, A40, H⟩ := H
 try dsimp only at H
 have A4 := Aside0.mk A40
 clear A40
 obtain ⟨ji5, hji5⟩ : ∃ j_ : Int, (mx t1022 0) = j_ := ⟨_, rfl⟩
 replace H : ((spec_l01Pick.f t1012 t1023 t1024 (([4, 10, 25] : List Int))).bind fun bt1028 => ((spec_l09DrawPath.f k t1012 bt1028.2.1 bt1028.2.2 (mn (ji5) 24) bt1028.1 100).bind fun bt1031 => (some (bt1031.1, t1022)))) = some (r1, r2) := by first | (rw [hji5] at H; exact H) | (simp only [hji5] at H ⊢; exact H)
 (try rw [hji5] at A2)
 (try rw [hji5] at A3)
 (try rw [hji5] at A4)
 (try (have hji5l : 0 ≤ ji5 := by (rw [← hji5]; unfold mx; (repeat' split) <;> omega)))
 (try (have hji5m : 0 ≤ ji5 := by omega))
 have hji5_ : (if t1022 < 0 then 0 else t1022) = ji5 := hji5
 obtain ⟨ji6, hji6⟩ : ∃ j_ : Int, (mn (ji5) 24) = j_ := ⟨_, rfl⟩
 replace H : ((spec_l01Pick.f t1012 t1023 t1024 (([4, 10, 25] : List Int))).bind fun bt1028 => ((spec_l09DrawPath.f k t1012 bt1028.2.1 bt1028.2.2 (ji6) bt1028.1 100).bind fun bt1031 => (some (bt1031.1, t1022)))) = some (r1, r2) := by first | (rw [hji6] at H; exact H) | (simp only [hji6] at H ⊢; exact H)
 (try rw [hji6] at A2)
 (try rw [hji6] at A3)
 (try rw [hji6] at A4)
 have hji6_ : (if 24 < (ji5) then 24 else (ji5)) = ji6 := hji6
 obtain ⟨y1025, hy1025⟩ : ∃ y_ : List Int, y_ = (([4, 10, 25] : List Int)) := ⟨_, rfl⟩
 replace H : ((spec_l01Pick.f t1012 t1023 t1024 y1025).bind fun bt1028 => ((spec_l09DrawPath.f k t1012 bt1028.2.1 bt1028.2.2 (ji6) bt1028.1 100).bind fun bt1031 => (some (bt1031.1, t1022)))) = some (r1, r2) := by have hq_ := hy1025; exact ZqH
 have Ny1025 := Aside0.mk hy1025
 clear hy1025
 replace H := Option.bind_eq_some_iff.mp H
 obtain ⟨⟨t1028, t1029, t1030⟩, A70, H⟩ := H
 try dsimp only at H
 have A7 := Aside0.mk A70
 clear A70
 replace H := Option.bind_eq_some_iff.mp H
 obtain ⟨⟨t1031, t1032, t1033⟩, A80, H⟩ := H
 try dsimp only at H
 have A8 := Aside0.mk A80
 clear A80
 simp only [Option.some.injEq, Prod.mk.injEq] at H
 obtain ⟨rfl, rfl⟩ := H
 go_enter Try.func31, Try.ntmps31
 go_wp2_with (first | ((with_reducible refine gate_callee (f := 121) rfl ?_); refine goesL_ (some 7) rfl rfl Try.func121 (by kernel_rfl) rfl #[.slice A0 l0.length c0] rfl ZA ?_; (with_reducible refine (spec_l01From.calls k _ _ l0 t1012 t1013 t1014 w _ ?side1 ?side2 ?side3 A2.out).mono ?_); (case side1 => exact Zq31); (case side2 => exact HR0.out); (case side3 => exact HC0.out); rintro e w9 ⟨g1015, rfl, hi, hb, hb2⟩; refine ⟨_, rfl, ?_⟩; have n0_ := Aside0.mk (hb); have n1_ := Aside0.mk (hi); clear HB; have HB := n0_; have HI1015 := n1_; clear n0_ n1_; (try clear hb); (try clear hb2); (try clear hi)) | ((with_reducible refine gate_dst (N := 10) rfl ?_); refine Kd.R_lit (Kd.int .i64) _ 2 ?hg (N := 10) ?hd (xs := ([2, 24] : List Int)) (inner := [.int .i64 2, .int .i64 24]) (ok := fun _ => True) (okp := fun _ => True) ?hr ?hp (fun _ hk => hk) trivial (Below.refl _ _) (Nat.le_refl _) (by simp) ?_; (case hd => rfl); (case hg => rfl); (case hr => exact ZqT); (case hp => exact (Reps.one (show Kd.M (Kd.int .i64) _ _ _ 2 [.int .i64 2] from rfl) (Reps.one (show Kd.M (Kd.int .i64) _ _ _ 24 [.int .i64 24] from rfl) (Reps.none _ _)))); intro v1017 w10 ho11 hb hg_ hnew_; clear hg_ hnew_; (first | rw [← Ny1016.out] at ho11 | (simp only [Int.reduceToNat] at ho11; rw [← Ny1016.out] at ho11)); have n0_ := Aside0.mk (Kd.R_lower ho11 (below_size (by exact Zq37))); have n1_ := Aside0.mk (IsS176.below (by exact Zq38) hb); have n2_ := Aside0.mk (below_step (by exact Zq37) hb); clear HI1015 HB; have HO1018 := n0_; have HI1015 := n1_; have HB := n2_; clear n0_ n1_ n2_; clear hb ho11; obtain ⟨Ao12, co12, eo12⟩ := Kd.R_slice HO1018.out; subst eo12) | ((with_reducible refine gate_callee (f := 136) rfl ?_); refine goesL_ (some 11) rfl rfl Try.func136 (by kernel_rfl) rfl #[.pointer (some ⟨g1015, 0, none⟩), .slice Ao12 y1016.length co12] rfl ZA ?_; (with_reducible refine (spec_l01Pick.calls g1015 t1012 t1013 t1014 _ _ y1016 t1019 t1020 t1021 w _ ?side1 ?side2 ?side3 ?side4 ?side5 A3.out).mono ?_); (case side1 => exact Zq38); (case side2 => exact Zq37); (case side3 => exact ZqC ((Kd.R_reads' HO1018.out).2.2)); (case side4 => exact (Kd.R_reads' HO1018.out).2.1); (case side5 => exact far_slice (IsS176.own_ne HI1015.out HO1018.out (by decide))); rintro e w13 ⟨rfl, hi, hb, hk⟩; refine ⟨_, rfl, ?_⟩; have n0_ := Aside0.mk (Kd.R_mono (Kd.R_keep (IsS176.apart (show IsS176 w _ g1015 t1012 t1013 t1014 from by exact Zq38) (ZR HO1018) (by decide)) hk (fun _ h => h.2)) (fun _ h => h.1)); have n1_ := Aside0.mk (hb); have n2_ := Aside0.mk (hi); clear HO1018 HB HI1015; have HO1018 := n0_; have HB := n1_; have HI1015 := n2_; clear n0_ n1_ n2_; (try clear hb); (try clear hk); (try clear hi)) | ((with_reducible refine gate_callee (f := 144) rfl ?_); refine goesL_ (some 12) rfl rfl Try.func144 (by kernel_rfl) rfl #[.pointer (some ⟨g1015, 0, none⟩), .int .i64 t1019] rfl ZA ?_; (with_reducible refine (spec_l01Near.calls g1015 t1012 t1020 t1021 t1019 t1022 t1023 t1024 w _ ?side1 ?side2 A4.out).mono ?_); (case side1 => exact Zq38); (case side2 => exact Zq37); rintro e w14 ⟨rfl, hi, hb, hk⟩; refine ⟨_, rfl, ?_⟩; have n0_ := Aside0.mk (Kd.R_mono (Kd.R_keep (IsS176.apart (show IsS176 w _ g1015 t1012 t1020 t1021 from by exact Zq38) (ZR HO1018) (by decide)) hk (fun _ h => h.2)) (fun _ h => h.1)); have n1_ := Aside0.mk (hb); have n2_ := Aside0.mk (hi); clear HO1018 HB HI1015; have HO1018 := n0_; have HB := n1_; have HI1015 := n2_; clear n0_ n1_ n2_; (try clear hb); (try clear hk); (try clear hi)) | ((with_reducible refine gate_dst (N := 18) rfl ?_); refine Kd.R_lit (Kd.int .i64) _ 2 ?hg (N := 18) ?hd (xs := ([4, 10, 25] : List Int)) (inner := [.int .i64 4, .int .i64 10, .int .i64 25]) (ok := fun _ => True) (okp := fun _ => True) ?hr ?hp (fun _ hk => hk) trivial (Below.refl _ _) (Nat.le_refl _) (by simp) ?_; (case hd => rfl); (case hg => rfl); (case hr => exact ZqT); (case hp => exact (Reps.one (show Kd.M (Kd.int .i64) _ _ _ 4 [.int .i64 4] from rfl) (Reps.one (show Kd.M (Kd.int .i64) _ _ _ 10 [.int .i64 10] from rfl) (Reps.one (show Kd.M (Kd.int .i64) _ _ _ 25 [.int .i64 25] from rfl) (Reps.none _ _))))); intro v1026 w15 ho16 hb hg_ hnew_; clear hg_ hnew_; (first | rw [← Ny1025.out] at ho16 | (simp only [Int.reduceToNat] at ho16; rw [← Ny1025.out] at ho16)); have n0_ := Aside0.mk (Kd.R_elder' (ZR HO1018) (Kd.R_base ho16) hb); have n1_ := Aside0.mk (Kd.R_lower (Kd.R_new' ho16 (Kd.R_lt (ZR HO1018))) (below_size (by exact Zq37))); have n2_ := Aside0.mk (IsS176.below (by exact Zq38) hb); have n3_ := Aside0.mk (below_step (by exact Zq37) hb); clear HO1018 HI1015 HB; have HO1018 := n0_; have HO1027 := n1_; have HI1015 := n2_; have HB := n3_; clear n0_ n1_ n2_ n3_; clear hb ho16; obtain ⟨Ao17, co17, eo17⟩ := Kd.R_slice HO1027.out; subst eo17) | ((with_reducible refine gate_callee (f := 136) rfl ?_); refine goesL_ (some 19) rfl rfl Try.func136 (by kernel_rfl) rfl #[.pointer (some ⟨g1015, 0, none⟩), .slice Ao17 y1025.length co17] rfl ZA ?_; (with_reducible refine (spec_l01Pick.calls g1015 t1012 t1023 t1024 _ _ y1025 t1028 t1029 t1030 w _ ?side1 ?side2 ?side3 ?side4 ?side5 A7.out).mono ?_); (case side1 => exact Zq38); (case side2 => exact Zq37); (case side3 => exact ZqC ((Kd.R_reads' HO1027.out).2.2)); (case side4 => exact (Kd.R_reads' HO1027.out).2.1); (case side5 => exact far_slice (IsS176.own_ne HI1015.out HO1027.out (by decide))); rintro e w18 ⟨rfl, hi, hb, hk⟩; refine ⟨_, rfl, ?_⟩; have n0_ := Aside0.mk (Kd.R_mono (Kd.R_keep (IsS176.apart (show IsS176 w _ g1015 t1012 t1023 t1024 from by exact Zq38) (ZR HO1018) (by decide)) hk (fun _ h => h.2)) (fun _ h => h.1)); have n1_ := Aside0.mk (Kd.R_mono (Kd.R_keep (IsS176.apart (show IsS176 w _ g1015 t1012 t1023 t1024 from by exact Zq38) (ZR HO1027) (by decide)) hk (fun _ h => h.2)) (fun _ h => h.1)); have n2_ := Aside0.mk (hb); have n3_ := Aside0.mk (hi); clear HO1018 HO1027 HB HI1015; have HO1018 := n0_; have HO1027 := n1_; have HB := n2_; have HI1015 := n3_; clear n0_ n1_ n2_ n3_; (try clear hb); (try clear hk); (try clear hi)) | ((with_reducible refine gate_callee (f := 145) rfl ?_); refine goesL_ (some 20) rfl rfl Try.func145 (by kernel_rfl) rfl #[.pointer (some ⟨g1015, 0, none⟩), .int .i64 ji6, .int .i64 t1028, .int .i64 100] rfl (by (try simp only [List.map_toArray, List.map_cons, List.map_nil]); first | done | (simp only [hji6]; rfl) | rfl | (simp only [List.length_drop, List.length_take]; rfl)) ?_; (with_reducible refine (spec_l09DrawPath.calls k g1015 t1012 t1029 t1030 ji6 t1028 100 t1031 t1032 t1033 w _ ?side1 ?side2 A8.out).mono ?_); (case side1 => exact Zq38); (case side2 => exact Zq37); rintro e w19 ⟨rfl, hi, hb, hk⟩; refine ⟨_, rfl, ?_⟩; have n0_ := Aside0.mk (Kd.R_mono (Kd.R_keep (IsS176.apart (show IsS176 w _ g1015 t1012 t1029 t1030 from by exact Zq38) (ZR HO1018) (by decide)) hk (fun _ h => h.2)) (fun _ h => h.1)); have n1_ := Aside0.mk (Kd.R_mono (Kd.R_keep (IsS176.apart (show IsS176 w _ g1015 t1012 t1029 t1030 from by exact Zq38) (ZR HO1027) (by decide)) hk (fun _ h => h.2)) (fun _ h => h.1)); have n2_ := Aside0.mk (hb); have n3_ := Aside0.mk (hi); clear HO1018 HO1027 HB HI1015; have HO1018 := n0_; have HO1027 := n1_; have HB := n2_; have HI1015 := n3_; clear n0_ n1_ n2_ n3_; (try clear hb); (try clear hk); (try clear hi)))
 go_ret2
 exact ⟨by first | rfl | (simp [errW_none, errW_some] <;> rfl) | (simp only [← hji5, ← hji6]; first | rfl | (simp [errW_none, errW_some] <;> rfl)) | (simp [*, errW_none, errW_some] <;> rfl), by exact Zq37⟩

/-! ### slices_Reverse_byte_byte: function 146 -/
def slices_Reverse_byte_byte.l0 : Nat → List Int → Int → Int → Option (List Int)
 | 0, _, _, _ => none
 | k + 1, x0, x2, x3 => if x2 < x3 then (if 0 ≤ x3 then (if x3 < (x0.length : Int) then (if 0 ≤ x2 then (if x2 < (x0.length : Int) then (slices_Reverse_byte_byte.l0 k ((x0.set (x2 : Int).toNat (rd x0 x3)).set (x3 : Int).toNat (rd x0 x2)) (wrap64 (x2 + 1)) (wrap64 (x3 - 1))) else (none)) else (none)) else (none)) else (none)) else (some x0)
def slices_Reverse_byte_byte.f (k : Nat) (l0 : List Int) : Option (List Int) := slices_Reverse_byte_byte.l0 k l0 0 (wrap64 ((l0.length : Int) - 1))
theorem slices_Reverse_byte_byte.mono_l : ∀ k, (∀ y0 y1 y2, LeO (slices_Reverse_byte_byte.l0 k y0 y1 y2) (slices_Reverse_byte_byte.l0 (k + 1) y0 y1 y2))
 | 0 => fun _ _ _ r h => by simp [slices_Reverse_byte_byte.l0] at h
 | k + 1 => by
  have ih0 := slices_Reverse_byte_byte.mono_l k
  ·intro y0 y1 y2
   unfold slices_Reverse_byte_byte.l0
   repeat' first
   | (with_reducible exact ih0 _ _ _)
   | (with_reducible exact LeO.refl _)
   | (with_reducible exact LeO.none _)
   | (with_reducible refine LeO.ite ?_ ?_)
   | (with_reducible refine LeO.bind ?_ (fun _ => ?_))
   | exact ih0 _ _ _
   | exact LeO.none _
   | refine LeO.ite ?_ ?_
   | refine LeO.bind ?_ (fun _ => ?_)
theorem slices_Reverse_byte_byte.mono : ∀ a0 k, LeO (slices_Reverse_byte_byte.f k a0) (slices_Reverse_byte_byte.f (k + 1) a0) := by
 intro a0 k
 have ih0 := slices_Reverse_byte_byte.mono_l k
 unfold slices_Reverse_byte_byte.f
 repeat' first
   | (with_reducible exact ih0 _ _ _)
   | (with_reducible exact LeO.refl _)
   | (with_reducible exact LeO.none _)
   | (with_reducible refine LeO.ite ?_ ?_)
   | (with_reducible refine LeO.bind ?_ (fun _ => ?_))
   | exact ih0 _ _ _
   | exact LeO.none _
   | refine LeO.ite ?_ ?_
   | refine LeO.bind ?_ (fun _ => ?_)
def slices_Reverse_byte_byte.T3 : Bool × List (List Nat × List Nat) := (true, [([], []), ([], []), ([], []), ([], []), ([], []), ([], []), ([4, 5], [4, 5]), ([6], [6]), ([], []), ([], []), ([8, 9], [8, 9]), ([10], [10]), ([0, 1, 0, 1, 4, 5, 6, 7, 11], [0, 1]), ([12, 7, 0, 1, 4, 5, 6, 7, 11], [7, 12]), ([2, 3, 0, 1, 2, 3, 4, 5, 6, 7, 8, 9, 10, 11, 12, 13], [2, 3]), ([14, 11, 13, 0, 1, 2, 3, 4, 5, 6, 7, 8, 9, 10, 11, 12, 13], [11, 14])])
def slices_Reverse_byte_byte.B3 : List Nat := [0, 0, 0, 0, 0, 0, 48, 112, 0, 0, 768, 1792, 4083, 8179, 16383, 32767]
theorem slices_Reverse_byte_byte.tab3 : rtab .any (opsOf Try.f146 3) = slices_Reverse_byte_byte.T3 := by kernel_rfl
theorem slices_Reverse_byte_byte.bits3 : waitsOk slices_Reverse_byte_byte.T3.2 slices_Reverse_byte_byte.B3 = true := by kernel_rfl
set_option maxHeartbeats 8000000 in
set_option maxRecDepth 100000 in
theorem slices_Reverse_byte_byte.calls (k : Nat) (P0_ : Nat → Prop) (u9000_ : Value) (l0 : List Int) (r : List Int) (w0 w : World) (hB : Below w0.heap.size w0 w) (ho0 : Kd.R (Kd.int .u8) 5 w w0.heap.size P0_ u9000_ l0) (h : slices_Reverse_byte_byte.f k l0 = some r) :
  Calls Try.prog 146 #[u9000_] w fun e w' => e = .returned (.tuple #[]) ∧ Kd.R (Kd.int .u8) 5 w' w0.heap.size (fun k_ => (P0_ k_ ∨ w.heap.size ≤ k_)) u9000_ r ∧ Below w0.heap.size w0 w' ∧ Kept w w' (fun k_ => P0_ k_) := by
 have HO0 := Aside0.mk (show Kd.R (Kd.int .u8) 5 w w0.heap.size (fun k_ => (P0_ k_ ∨ w.heap.size ≤ k_)) u9000_ l0 from Kd.R_mono ho0 (fun k_ hk => (.inl hk)))
 have HK := Aside0.mk (Kept.refl w (fun k_ => P0_ k_))
 have HW0 := Aside0.mk hB.size
 have HB := Aside0.mk hB
 clear hB
 have H : (slices_Reverse_byte_byte.l0 k l0 0 (wrap64 ((l0.length : Int) - 1))) = some r := h
 clear h
 have H' := Aside0.mk H
 clear H
 obtain ⟨Ao2, co2, eo2⟩ := Kd.R_slice HO0.out
 subst eo2
 go_enter Try.func146, Try.ntmps146
 go_wp2
 go_loopg [2, 3] k (fun kq v2 v3 w' => ∃ (x0_1 : List Int) (x2_1 : Int) (x3_1 : Int), v2 = .int .i64 x2_1 ∧ v3 = .int .i64 x3_1 ∧ Aside0 (slices_Reverse_byte_byte.l0 kq x0_1 x2_1 x3_1 = some r) ∧ Aside0 (kq ≤ k) ∧ Aside0 (Kd.R (Kd.int .u8) 5 w' w0.heap.size (fun k_ => (P0_ k_ ∨ w.heap.size ≤ k_)) (.slice Ao2 l0.length co2) x0_1) ∧ Aside0 (Kept w w' (fun k_ => P0_ k_)) ∧ Aside0 (Below w0.heap.size w0 w'))
 case atStart => exact ⟨(l0), (0), (wrap64 ((l0.length : Int) - 1)), (ZqS), (ZqS), H', ⟨Nat.le_refl _⟩, ⟨ZR HO0⟩, ⟨by exact Zq39⟩, ⟨ZB⟩⟩
 case round =>
  clear H'
  try clear c1
  try clear p2
  obtain ⟨x0_1, x2_1, x3_1, rfl, rfl, HA, HK1, HO_0, HK, HB⟩ := hrel
  have hl0_1 := (Kd.R_reads' HO_0.out).1
  rw [hl0_1] at HO_0
  (try simp only [hl0_1])
  cases gk with
  | zero => exact absurd HA.out (by simp [slices_Reverse_byte_byte.l0])
  | succ k1 =>
   have H := HA.out
   clear HA
   simp only [slices_Reverse_byte_byte.l0] at H
   by_cases c3 : x2_1 < x3_1
   ·rw [if_pos c3] at H
    have c3b0 : decide (x2_1 < x3_1) = true := decide_eq_true c3
    clear c3
    by_cases c4 : 0 ≤ x3_1
    ·rw [if_pos c4] at H
     have c4b0 : decide (0 ≤ x3_1) = true := decide_eq_true c4
     clear c4
     by_cases c5 : x3_1 < (x0_1.length : Int)
     ·rw [if_pos c5] at H
      have c5b0 : decide (x3_1 < (x0_1.length : Int)) = true := decide_eq_true c5
      clear c5
      by_cases c6 : 0 ≤ x2_1
      ·rw [if_pos c6] at H
       have c6b0 : decide (0 ≤ x2_1) = true := decide_eq_true c6
       clear c6
       by_cases c7 : x2_1 < (x0_1.length : Int)
       ·rw [if_pos c7] at H
        have c7b0 : decide (x2_1 < (x0_1.length : Int)) = true := decide_eq_true c7
        clear c7
        obtain ⟨y1036, hy1036⟩ : ∃ y_ : List Int, y_ = (x0_1.set (x2_1 : Int).toNat (rd x0_1 x3_1)) := ⟨_, rfl⟩
        replace H : (slices_Reverse_byte_byte.l0 k1 (y1036.set (x3_1 : Int).toNat (rd x0_1 x2_1)) (wrap64 (x2_1 + 1)) (wrap64 (x3_1 - 1))) = some r := by have hq_ := hy1036; exact ZqH
        have Ny1036 := Aside0.mk hy1036
        clear hy1036
        obtain ⟨y1037, hy1037⟩ : ∃ y_ : List Int, y_ = (y1036.set (x3_1 : Int).toNat (rd x0_1 x2_1)) := ⟨_, rfl⟩
        replace H : (slices_Reverse_byte_byte.l0 k1 y1037 (wrap64 (x2_1 + 1)) (wrap64 (x3_1 - 1))) = some r := by have hq_ := hy1037; exact ZqH
        have Ny1037 := Aside0.mk hy1037
        clear hy1037
        have H' := Aside0.mk H
        clear H
        try go_wp2
        have n0_ := Aside0.mk (Kd.R_drew HO_0.out)
        have n1_ := Aside0.mk (Kept.drew HK.out)
        have n2_ := Aside0.mk (below_drew1 HB.out)
        clear HO_0
        clear HK
        clear HB
        have HO_0 := n0_
        have HK := n1_
        have HB := n2_
        clear n0_ n1_ n2_
        have p1034 : 0 ≤ (x3_1 : Int) := of_decide_eq_true (by first | (with_reducible assumption) | assumption)
        have q1034 : x3_1 < (x0_1.length : Int) := of_decide_eq_true (by first | (with_reducible assumption) | assumption)
        obtain ⟨ad1034, e1034, hx1034_0⟩ := Kd.at_int (Kd.R_reads' HO_0.out).2.2 x3_1 p1034 q1034
        cases e1034
        replace p1034 := eq_true p1034
        replace q1034 := eq_true q1034
        have p1035 : 0 ≤ (x2_1 : Int) := of_decide_eq_true (by first | (with_reducible assumption) | assumption)
        have q1035 : x2_1 < (x0_1.length : Int) := of_decide_eq_true (by first | (with_reducible assumption) | assumption)
        obtain ⟨ad1035, e1035, hx1035_0⟩ := Kd.at_int (Kd.R_reads' HO_0.out).2.2 x2_1 p1035 q1035
        obtain rfl : ad1034 = ad1035 := (by injection e1035)
        replace p1035 := eq_true p1035
        replace q1035 := eq_true q1035
        have p8 : 0 ≤ (x2_1 : Int) := of_decide_eq_true (by first | (with_reducible assumption) | assumption)
        have q8 : (x2_1 : Int) < ((x0_1.length : Int) : Int) := of_decide_eq_true (by first | (with_reducible assumption) | assumption)
        obtain ⟨go8, co8, eo8, gb8, gl8, cl8, HG8⟩ := Kd.R_form HO_0.out (by omega)
        (first | cases eo8 | (injection eo8 with ea_ en_ ec_; (first | subst ea_ | (injection ea_ with ea_; subst ea_)); subst ec_; clear en_))
        have GB8 := Aside0.mk gb8
        have GG8 := Aside0.mk HG8
        clear gb8 gl8 HG8
        have HMgo8 := Aside0.mk (show (P0_ go8 ∨ w.heap.size ≤ go8) from (HO_0.out.1 _ rfl))
        (first | simp only [add_plain] at hx1034_0 | skip)
        (first | simp only [add_plain] at hx1035_0 | skip)
        obtain ⟨hx8_0, hf8_0⟩ := Kd.R_celln 0 HO_0.out (x2_1 : Int) p8 q8
        replace p8 := eq_true p8
        replace q8 := eq_true q8
        have HP11 := Kd.R_putn HO_0.out (x2_1 : Int) (rd x0_1 x3_1)
        rw [← Ny1036.out] at HP11
        have HQ11 := Aside0.mk HP11
        clear HP11
        have p9 : 0 ≤ (x3_1 : Int) := of_decide_eq_true (by first | (with_reducible assumption) | assumption)
        have q9 : (x3_1 : Int) < ((x0_1.length : Int) : Int) := of_decide_eq_true (by first | (with_reducible assumption) | assumption)
        obtain ⟨hx9_0, hf9_0⟩ := Kd.R_celln 0 HQ11.out (x3_1 : Int) p9 q9
        replace p9 := eq_true p9
        replace q9 := eq_true q9
        have HP12 := Kd.R_putn HQ11.out (x3_1 : Int) (rd x0_1 x2_1)
        rw [← Ny1037.out] at HP12
        have HQ12 := Aside0.mk HP12
        clear HP12
        refine start_ (n := 16) (S := fun w' => w'.cell? ⟨go8, (x3_1).toNat, none⟩ = some (.int .u8 (rd x0_1 x3_1)) ∧ w'.cell? ⟨go8, (x2_1).toNat, none⟩ = some (.int .u8 (rd x0_1 x2_1))) (ds := [13, 15]) #[false, false, false, false, false, false, false, false, false, false, false, false, false, false, false, false] (by kernel_rfl) rfl rfl ⟨hx1034_0, hx1035_0⟩ (fun hHeld => ?_); refine with_tabW slices_Reverse_byte_byte.tab3 slices_Reverse_byte_byte.bits3 (fun HT_ HW_ => ?_)
        generalize wr.drew = w10 at HO_0 HK HB GG8 HQ11 HQ12 hf8_0 hf9_0 hx1034_0 hx1035_0 hx8_0 hx9_0 hHeld ⊢
        refine Zpt 0 (some 14) (h := ?_)
        refine Zpt 1 (some 15) (h := ?_)
        refine Zpt 2 (some 16) (h := ?_)
        refine Zpt 3 (some 17) (h := ?_)
        refine Zpt 4 (some 18) (h := ?_)
        refine Zpt 5 (some 19) (h := ?_)
        refine Zpt 6 (some 20) (h := ?_)
        refine Zpt 8 (some 22) (h := ?_)
        refine Zpt 9 (some 23) (h := ?_)
        refine Zpt 10 (some 24) (h := ?_)
        refine ZtW2 7 (some 21) hHeld (h := ?_)
        refine ZtW2 11 (some 25) hHeld (h := ?_)
        refine Zpt 12 (some 26) (h := ?_)
        refine last_ (i := 13) (N := none) #[true, true, true, true, true, true, true, true, true, true, true, true, true, true, false, false] rfl rfl (one_of HT_.out (by kernel_rfl)) (by decide) (fun K hK => ?_)
        refine skip_ (w1 := ?_) (by rfl) rfl ?_ ?_
        rotate_left
        ·go_simp
         rfl
        refine hK.out _ _ ?_
        clear hK K
        refine Zpt 14 (some 27) (h := ?_)
        refine last_ (i := 15) (N := none) #[true, true, true, true, true, true, true, true, true, true, true, true, true, true, true, true] rfl rfl (one_of HT_.out (by kernel_rfl)) (by decide) (fun K hK => ?_)
        refine skip_ (w1 := ?_) (by rfl) rfl ?_ ?_
        rotate_left
        ·go_simp
         rfl
        refine hK.out _ _ ?_
        clear hK K
        refine done_ (done_of HT_.out (by kernel_rfl)) ?_
        try go_wp2
        (try simp only [← hl0_1])
        go_roundg k1
        case measure => have := HK1.out; omega
        case rel => exact ⟨(y1037), (wrap64 (x2_1 + 1)), (wrap64 (x3_1 - 1)), (ZqS), (ZqS), H', ⟨by have := HK1.out; omega⟩, ⟨by (try simp only [hl0_1]); refine ZQ ?_; exact HQ12.out⟩, ⟨by exact Zq40⟩, ⟨by exact Zq41⟩⟩
       ·rw [if_neg c7] at H
        exact absurd H (by simp)
      ·rw [if_neg c6] at H
       exact absurd H (by simp)
     ·rw [if_neg c5] at H
      exact absurd H (by simp)
    ·rw [if_neg c4] at H
     exact absurd H (by simp)
   ·rw [if_neg c3] at H
    have c3b0 : decide (x2_1 < x3_1) = false := decide_eq_false c3
    clear c3
    obtain rfl := Option.some.inj H
    go_wp2
    first | go_end0 | ((try simp only [Exit.inBlock, Exit.then]); refine bodyPost_ret (results_none rfl _ _ _) rfl ?_)
    exact ⟨ZqR, (by first | exact (ZR HO_0) | (simp only [hl0_1]; exact (ZR HO_0))), ZB, by exact Zq39⟩

/-! ### impl_ReversePath: function 32 -/
section
open Go.Lib
/-- A conversion's row of bytes: its cells begin with l. -/
def BRow (w : World) (g : Nat) (l : List Int) : Prop := ∃ (cs : Array Value) (fz : Nat × Nat), w.heap[g]? = some (.cells cs 5 fz) ∧ cs.size ≤ fz.1 ∧ l.length ≤ cs.size ∧ ∀ i (h : i < l.length), cs[i]? = some (.int .u8 l[i])
theorem BRow.cell {w : World} {g : Nat} {l : List Int} (h : BRow w g l) (i : Int) (h0 : 0 ≤ i) (h1 : i < (l.length : Int)) : w.cell? ⟨g, i.toNat, none⟩ = some (.int .u8 (rd l i)) := by
  obtain ⟨cs, fz, hb, hf, hl, hc⟩ := h
  have hi : i.toNat < l.length := by omega
  have := hc i.toNat hi
  simp [World.cell?, hb, this, rd, List.getD_eq_getElem?_getD, hi]
theorem BRow.frozen {w : World} {g : Nat} {l : List Int} (h : BRow w g l) (i : Int) (h0 : 0 ≤ i) (h1 : i < (l.length : Int)) : w.frozen? ⟨g, i.toNat, none⟩ = false := by
  obtain ⟨cs, fz, hb, hf, hl, hc⟩ := h
  simp [World.frozen?, hb]
  omega
theorem BRow.put {w : World} {g : Nat} {l : List Int} (h : BRow w g l) (i : Int) (x : Int) : BRow (w.setCell ⟨g, i.toNat, none⟩ (.int .u8 x)) g (l.set i.toNat x) := by
  obtain ⟨cs, fz, hb, hf, hl, hc⟩ := h
  refine ⟨cs.setIfInBounds i.toNat (.int .u8 x), fz, by simp [World.setCell, Array.getElem?_modify, hb], by simpa using hf, by simpa using hl, fun j hj => ?_⟩
  rw [List.length_set] at hj
  rw [Array.getElem?_setIfInBounds, List.getElem_set]
  by_cases e : i.toNat = j
  · subst e
    have : i.toNat < cs.size := by omega
    simp [this]
  · simp [e, hc j hj]
theorem BRow.step {w w1 : World} {g : Nat} {l : List Int} (h : BRow w g l) (hb : w1.heap[g]? = w.heap[g]?) : BRow w1 g l := by
  obtain ⟨cs, fz, h1, h2⟩ := h
  exact ⟨cs, fz, hb.trans h1, h2⟩
theorem BRow.C {w : World} {g : Nat} {l : List Int} (h : BRow w g l) (hm : l.length ≤ 1000000) : (Kd.int .u8).C w (some ⟨g, 0, none⟩) l.length l := by
  refine ⟨rfl, by omega, fun _ => ⟨⟨g, 0, none⟩, rfl, fun j p hj => ⟨[.int .u8 p], rfl, rfl, fun i u hu => ?_⟩⟩⟩
  rcases i with _ | i
  · simp only [List.getElem?_cons_zero, Option.some.injEq] at hu
    subst hu
    obtain ⟨hlt, rfl⟩ := List.getElem?_eq_some_iff.1 hj
    obtain ⟨cs, fz, hb, hf, hl, hc⟩ := h
    have := hc j hlt
    rw [show j * (Kd.int .u8).sz + 0 = j by simp [Kd.int, Kd.scalar], add_plain]
    simp [World.cell?, hb, this]
  · simp at hu
theorem BRow.conv (W : World) (s : ByteArray) : BRow (bytesWorld W 5 s) W.heap.size (bytesOf s) := by
  refine ⟨bytesCells W 5 s, _, bytesWorld_at_new W 5 s, Nat.le_refl _, by rw [bytesOf_length]; simp [bytesCells], fun i hi => ?_⟩
  rw [bytesOf_length] at hi
  simp [bytesCells, bytesOf, Array.getElem?_append, hi]
set_option maxHeartbeats 8000000 in
set_option maxRecDepth 100000 in
theorem hand_reverse (k : Nat) (g c : Nat) (l0 : List Int) (r : List Int) (w0 w : World) (hB : Below w0.heap.size w0 w) (ho0 : BRow w g l0) (hg0 : w0.heap.size ≤ g) (hc0 : l0.length ≤ c) (hm0 : l0.length ≤ 1000000) (h : slices_Reverse_byte_byte.f k l0 = some r) :
  Calls Try.prog 146 #[.slice (some ⟨g, 0, none⟩) l0.length c] w fun e w' => e = .returned (.tuple #[]) ∧ BRow w' g r ∧ Below w0.heap.size w0 w' ∧ r.length = l0.length := by
 have HO0 := Aside0.mk ho0
 have GB8 := Aside0.mk hg0
 clear ho0
 have HB := Aside0.mk hB
 clear hB
 have H : (slices_Reverse_byte_byte.l0 k l0 0 (wrap64 ((l0.length : Int) - 1))) = some r := h
 clear h
 have H' := Aside0.mk H
 clear H
 go_enter Try.func146, Try.ntmps146
 go_wp2
 go_loopg [2, 3] k (fun kq v2 v3 w' => ∃ (x0_1 : List Int) (x2_1 : Int) (x3_1 : Int), v2 = .int .i64 x2_1 ∧ v3 = .int .i64 x3_1 ∧ Aside0 (slices_Reverse_byte_byte.l0 kq x0_1 x2_1 x3_1 = some r) ∧ Aside0 (kq ≤ k) ∧ Aside0 (BRow w' g x0_1) ∧ x0_1.length = l0.length ∧ Aside0 (Below w0.heap.size w0 w'))
 case atStart => exact ⟨l0, 0, (wrap64 ((l0.length : Int) - 1)), rfl, (by rw [show wrap64 ((l0.length : Int) - 1) = (l0.length : Int) - 1 by unfold wrap64; omega]), H', ⟨Nat.le_refl _⟩, HO0, rfl, HB⟩
 case round =>
  clear H'
  try clear c1
  try clear p2
  obtain ⟨x0_1, x2_1, x3_1, rfl, rfl, HA, HK1, HO_0, hl0_1, HB⟩ := hrel
  cases gk with
  | zero => exact absurd HA.out (by simp [slices_Reverse_byte_byte.l0])
  | succ k1 =>
   have H := HA.out
   clear HA
   simp only [slices_Reverse_byte_byte.l0] at H
   by_cases c3 : x2_1 < x3_1
   ·rw [if_pos c3] at H
    have c3b0 : decide (x2_1 < x3_1) = true := decide_eq_true c3
    clear c3
    by_cases c4 : 0 ≤ x3_1
    ·rw [if_pos c4] at H
     have c4b0 : decide (0 ≤ x3_1) = true := decide_eq_true c4
     clear c4
     by_cases c5 : x3_1 < (x0_1.length : Int)
     ·rw [if_pos c5] at H
      have c5b0 : decide (x3_1 < (x0_1.length : Int)) = true := decide_eq_true c5
      clear c5
      by_cases c6 : 0 ≤ x2_1
      ·rw [if_pos c6] at H
       have c6b0 : decide (0 ≤ x2_1) = true := decide_eq_true c6
       clear c6
       by_cases c7 : x2_1 < (x0_1.length : Int)
       ·rw [if_pos c7] at H
        have c7b0 : decide (x2_1 < (x0_1.length : Int)) = true := decide_eq_true c7
        clear c7
        obtain ⟨y1036, hy1036⟩ : ∃ y_ : List Int, y_ = (x0_1.set (x2_1 : Int).toNat (rd x0_1 x3_1)) := ⟨_, rfl⟩
        replace H : (slices_Reverse_byte_byte.l0 k1 (y1036.set (x3_1 : Int).toNat (rd x0_1 x2_1)) (wrap64 (x2_1 + 1)) (wrap64 (x3_1 - 1))) = some r := by have hq_ := hy1036; exact ZqH
        have Ny1036 := Aside0.mk hy1036
        clear hy1036
        obtain ⟨y1037, hy1037⟩ : ∃ y_ : List Int, y_ = (y1036.set (x3_1 : Int).toNat (rd x0_1 x2_1)) := ⟨_, rfl⟩
        replace H : (slices_Reverse_byte_byte.l0 k1 y1037 (wrap64 (x2_1 + 1)) (wrap64 (x3_1 - 1))) = some r := by have hq_ := hy1037; exact ZqH
        have Ny1037 := Aside0.mk hy1037
        clear hy1037
        have H' := Aside0.mk H
        clear H
        try go_wp2
        have p1034 : 0 ≤ (x3_1 : Int) := of_decide_eq_true (by first | (with_reducible assumption) | assumption)
        have q1034 : x3_1 < (x0_1.length : Int) := of_decide_eq_true (by first | (with_reducible assumption) | assumption)
        have p1035 : 0 ≤ (x2_1 : Int) := of_decide_eq_true (by first | (with_reducible assumption) | assumption)
        have q1035 : x2_1 < (x0_1.length : Int) := of_decide_eq_true (by first | (with_reducible assumption) | assumption)
        have q8 : (x2_1 : Int) < (l0.length : Int) := by rw [← hl0_1]; exact q1035
        have q9 : (x3_1 : Int) < (l0.length : Int) := by rw [← hl0_1]; exact q1034
        have n0_ : Aside0 (BRow wr.drew g x0_1) := ⟨BRow.step HO_0.out rfl⟩
        have n2_ := Aside0.mk (below_drew1 HB.out)
        clear HO_0
        clear HB
        have HO_0 := n0_
        have HB := n2_
        clear n0_ n2_
        have hx1034_0 := HO_0.out.cell x3_1 p1034 q1034
        have hx1035_0 := HO_0.out.cell x2_1 p1035 q1035
        have hx8_0 := HO_0.out.cell x2_1 p1035 q1035
        have hf8_0 := HO_0.out.frozen x2_1 p1035 q1035
        have HP11 := HO_0.out.put x2_1 (rd x0_1 x3_1)
        rw [← Ny1036.out] at HP11
        have HQ11 := Aside0.mk HP11
        have hly1 : y1036.length = x0_1.length := by rw [Ny1036.out, List.length_set]
        have hx9_0 := HQ11.out.cell x3_1 p1034 (by rw [hly1]; exact q1034)
        have hf9_0 := HQ11.out.frozen x3_1 p1034 (by rw [hly1]; exact q1034)
        have HP12 := HQ11.out.put x3_1 (rd x0_1 x2_1)
        rw [← Ny1037.out] at HP12
        have HQ12 := Aside0.mk HP12
        have hly2 : y1037.length = l0.length := by rw [Ny1037.out, List.length_set, hly1, hl0_1]
        clear HP11 HP12
        replace p1034 := eq_true p1034
        replace q1034 := eq_true q1034
        replace p1035 := eq_true p1035
        replace q1035 := eq_true q1035
        replace q8 := eq_true q8
        replace q9 := eq_true q9
        refine start_ (n := 16) (S := fun w' => w'.cell? ⟨g, (x3_1).toNat, none⟩ = some (.int .u8 (rd x0_1 x3_1)) ∧ w'.cell? ⟨g, (x2_1).toNat, none⟩ = some (.int .u8 (rd x0_1 x2_1))) (ds := [13, 15]) #[false, false, false, false, false, false, false, false, false, false, false, false, false, false, false, false] (by kernel_rfl) rfl rfl ⟨hx1034_0, hx1035_0⟩ (fun hHeld => ?_); refine with_tabW slices_Reverse_byte_byte.tab3 slices_Reverse_byte_byte.bits3 (fun HT_ HW_ => ?_)
        generalize wr.drew = w10 at HO_0 HB HQ11 HQ12 hf8_0 hf9_0 hx1034_0 hx1035_0 hx8_0 hx9_0 hHeld ⊢
        refine Zpt 0 (some 14) (h := ?_)
        refine Zpt 1 (some 15) (h := ?_)
        refine Zpt 2 (some 16) (h := ?_)
        refine Zpt 3 (some 17) (h := ?_)
        refine Zpt 4 (some 18) (h := ?_)
        refine Zpt 5 (some 19) (h := ?_)
        refine Zpt 6 (some 20) (h := ?_)
        refine Zpt 8 (some 22) (h := ?_)
        refine Zpt 9 (some 23) (h := ?_)
        refine Zpt 10 (some 24) (h := ?_)
        refine ZtW2 7 (some 21) hHeld (h := ?_)
        refine ZtW2 11 (some 25) hHeld (h := ?_)
        refine Zpt 12 (some 26) (h := ?_)
        refine last_ (i := 13) (N := none) #[true, true, true, true, true, true, true, true, true, true, true, true, true, true, false, false] rfl rfl (one_of HT_.out (by kernel_rfl)) (by decide) (fun K hK => ?_)
        refine skip_ (w1 := ?_) (by rfl) rfl ?_ ?_
        rotate_left
        ·go_simp
         rfl
        refine hK.out _ _ ?_
        clear hK K
        refine Zpt 14 (some 27) (h := ?_)
        refine last_ (i := 15) (N := none) #[true, true, true, true, true, true, true, true, true, true, true, true, true, true, true, true] rfl rfl (one_of HT_.out (by kernel_rfl)) (by decide) (fun K hK => ?_)
        refine skip_ (w1 := ?_) (by rfl) rfl ?_ ?_
        rotate_left
        ·go_simp
         rfl
        refine hK.out _ _ ?_
        clear hK K
        refine done_ (done_of HT_.out (by kernel_rfl)) ?_
        try go_wp2
        go_roundg k1
        case measure => have := HK1.out; omega
        case rel => exact ⟨y1037, (wrap64 (x2_1 + 1)), (wrap64 (x3_1 - 1)), rfl, rfl, H', ⟨by have := HK1.out; omega⟩, HQ12, hly2, ⟨below_set (below_set HB.out GB8.out) GB8.out⟩⟩
       ·rw [if_neg c7] at H
        exact absurd H (by simp)
      ·rw [if_neg c6] at H
       exact absurd H (by simp)
     ·rw [if_neg c5] at H
      exact absurd H (by simp)
    ·rw [if_neg c4] at H
     exact absurd H (by simp)
   ·rw [if_neg c3] at H
    have c3b0 : decide (x2_1 < x3_1) = false := decide_eq_false c3
    clear c3
    obtain rfl := Option.some.inj H
    go_wp2
    first | go_end0 | ((try simp only [Exit.inBlock, Exit.then]); refine bodyPost_ret (results_none rfl _ _ _) rfl ?_)
    first | exact ⟨rfl, HO_0.out, HB.out, hl0_1⟩ | exact ⟨rfl, HO_0.out, HB.out⟩
theorem brow_conv {P : Program} {ops : Array Oper} {rest : List Oper} {o : Oper} {a : Act} {Q : Exit → Act → World → Prop} {W : World} (hgd : o.guard = none) {N : Tmp} (_hd : o.dst = some N)
    (src dst : TypeId) (x : Operand) (s : ByteArray) (ho : o.op = .convert src dst x) (hx : a.eval x = .string s) (hs : P.underlying src = some .string) (ht : P.underlying dst = some (.slice 5)) (he : P.underlying 5 = some (.int .u8))
    (h : ∀ c w1, s.size ≤ c → BRow w1 W.heap.size (bytesOf s) → Below W.heap.size W w1 → wpList P ops Q rest (a.put o.dst (.slice (some ⟨W.heap.size, 0, none⟩) s.size c)) w1) : wpList P ops Q (o :: rest) a W := by
  have hg := XV.grownBy_bytes W 5 s
  have hrun := Go.Lib.run_convert_string_bytes (P := P) W src dst 5 s hs ht he
  refine Kd.event_run hgd (w1 := bytesWorld W 5 s) (v := .slice (some ⟨W.heap.size, 0, none⟩) s.size (grownCap W s.size 0 5)) ?_ (h _ _ (grownCap_ge W s.size 0 5) (BRow.conv W s) ⟨hg.os, hg.tape, hg.output, hg.size, fun k hk => hg.block k hk (by simp)⟩)
  unfold execOp
  rw [ho]
  simp only [hx]
  simp [hrun, Result.andThen]
/-- the letter that goes back, as a number -/
def swI (x : Int) : Int := if x = 85 then 68 else if x = 68 then 85 else x
def impl_ReversePath.f (k : Nat) (a0 : ByteArray) (a1 : Int) : Option (ByteArray × Int) := (impl_pathHeights.f k a0 a1 24).bind fun t => if t.2 = true then (if a0.size ≤ 1000000 then (slices_Reverse_byte_byte.f k (bytesOf a0)).bind fun r => some (strOfNums (r.map swI), 0) else none) else some (⟨#[]⟩, 2)
theorem impl_ReversePath.mono : ∀ a0 a1 k, LeO (impl_ReversePath.f k a0 a1) (impl_ReversePath.f (k + 1) a0 a1) := by
  intro a0 a1 k
  unfold impl_ReversePath.f
  refine LeO.bind (impl_pathHeights.mono _ _ _ _) (fun _ => ?_)
  refine LeO.ite (LeO.ite (LeO.bind (slices_Reverse_byte_byte.mono _ _) (fun _ => LeO.refl _)) (LeO.refl _)) (LeO.refl _)
set_option maxHeartbeats 8000000 in
set_option maxRecDepth 100000 in
theorem impl_ReversePath.calls (k : Nat) (a0 : ByteArray) (a1 : Int) (r1 : ByteArray) (r2 : Int) (w : World) (h : impl_ReversePath.f k a0 a1 = some (r1, r2)) :
    Calls Try.prog 32 #[.string a0, .int .i64 a1] w fun e w' => e = .returned (.tuple #[.string r1, .int .i64 r2]) ∧ Below w.heap.size w w' := by
  unfold impl_ReversePath.f at h
  obtain ⟨⟨t1, t2⟩, ht, h⟩ := Option.bind_eq_some_iff.1 h
  simp only at h
  have A1 := Aside0.mk ht
  clear ht
  cases t2 with
  | false =>
    rw [if_neg (by decide)] at h
    obtain ⟨rfl, rfl⟩ : (⟨#[]⟩ : ByteArray) = r1 ∧ (2 : Int) = r2 := by simpa using h
    clear h
    go_enter Try.func32, Try.ntmps32
    go_wp2_with fail
    refine (impl_pathHeights.calls k a0 a1 24 t1 false w A1.out).mono ?_
    rintro e w1 ⟨v, rfl, hv, hb⟩
    have HB := Aside0.mk hb
    clear hv hb
    go_wp2
    go_ret2
    exact ⟨rfl, HB.out⟩
  | true =>
    rw [if_pos rfl] at h
    by_cases hs : a0.size ≤ 1000000
    · rw [if_pos hs] at h
      obtain ⟨r, hr, h⟩ := Option.bind_eq_some_iff.1 h
      obtain ⟨rfl, rfl⟩ : strOfNums (r.map swI) = r1 ∧ (0 : Int) = r2 := by simpa using h
      have A2 := Aside0.mk hr
      have HS := Aside0.mk hs
      clear h hr hs
      go_enter Try.func32, Try.ntmps32
      go_wp2_with fail
      refine (impl_pathHeights.calls k a0 a1 24 t1 true w A1.out).mono ?_
      rintro e w1 ⟨v, rfl, hv, hb⟩
      have HB := Aside0.mk hb
      clear hv hb
      go_wp2_with (first | ((with_reducible refine gate_dst (N := 20) rfl ?_); refine brow_conv ?hg (N := 20) ?hd 9 22 (.tmp 19) a0 ?ho ?hx (by kernel_rfl) (by kernel_rfl) (by kernel_rfl) ?_; (case hd => rfl); (case hg => rfl); (case ho => rfl); (case hx => rfl); intro c w2 hc hbr hb; have GG := Aside0.mk HB.out.size; have HBR := Aside0.mk hbr; have HCC := Aside0.mk hc; replace HB := Aside0.mk (below_step HB.out hb); generalize w1.heap.size = g at HBR GG; clear hc hbr hb))
      have hrev := hand_reverse k g c (bytesOf a0) r w w2 HB.out HBR.out GG.out (by rw [bytesOf_length]; exact HCC.out) (by rw [bytesOf_length]; exact HS.out) A2.out
      rw [bytesOf_length] at hrev
      refine hrev.mono ?_
      rintro e w3 ⟨rfl, hbr, hb, hl⟩
      have HBR3 := Aside0.mk hbr
      replace HB := Aside0.mk hb
      have HL := Aside0.mk hl
      have hmx : r.length ≤ 1000000 := by rw [hl]; exact HS.out
      clear hrev hbr hb HBR
      go_wp2
      go_loopw [25] (fun iv wr => ∃ (j : Nat), iv = .int .i64 j ∧ j ≤ r.length ∧ Aside0 (BRow wr g ((r.take j).map swI ++ r.drop j)) ∧ Aside0 (Below w.heap.size w wr))
        (fun iv _ => r.length - (intOf iv).toNat)
      case atStart => exact ⟨0, rfl, Nat.zero_le _, ⟨by simpa using HBR3.out⟩, HB⟩
      case round =>
        obtain ⟨j, rfl, hle, HR, HW⟩ := hrel
        have hll : ((r.take j).map swI ++ r.drop j).length = r.length := by simp; omega
        by_cases hlt : j < r.length
        · have hrd : rd ((r.take j).map swI ++ r.drop j) (j : Int) = r[j] := by
            have : (List.map swI (List.take j r)).length = j := by simp; omega
            unfold rd
            rw [List.getD_eq_getElem?_getD, Int.toNat_natCast, List.getElem?_append_right (by rw [this]; exact Nat.le_refl _), this, Nat.sub_self, List.getElem?_drop]
            simp [hlt]
          have hx0 := HR.out.cell (j : Int) (by omega) (by rw [hll]; omega)
          have hf0 := HR.out.frozen (j : Int) (by omega) (by rw [hll]; omega)
          rw [hrd] at hx0
          rw [Int.toNat_natCast] at hx0 hf0
          have hlt2 : j < a0.size := by rw [← HL.out]; exact hlt
          have hrow : ∀ y : Int, swI r[j] = y → ((r.take j).map swI ++ r.drop j).set j y = (r.take (j + 1)).map swI ++ r.drop (j + 1) := fun y hy => by
            rw [List.set_append_right _ _ (by simp; omega), show j - (List.map swI (List.take j r)).length = 0 by simp; omega, List.drop_eq_getElem_cons hlt, List.set_cons_zero, List.take_succ_eq_append_getElem hlt, List.map_append, ← hy]
            simp
          generalize hxe : r[j] = x at hx0 hrow
          by_cases h85 : x = 85
          · subst h85
            have HP : Aside0 (BRow (wr.setCell ⟨g, j, none⟩ (.int .u8 68)) g ((r.take (j + 1)).map swI ++ r.drop (j + 1))) := by
              have := HR.out.put (j : Int) 68
              rw [Int.toNat_natCast, hrow 68 rfl] at this
              exact ⟨this⟩
            have HP2 : Aside0 (Below w.heap.size w (wr.setCell ⟨g, j, none⟩ (.int .u8 68))) := ⟨below_set HW.out GG.out⟩
            clear hrow hll hrd HR
            go_wp2
            go_roundw
            case rel => exact ⟨j + 1, by go_num, by omega, HP, HP2⟩
            case measure => simp [intOf]; omega
          · by_cases h68 : x = 68
            · subst h68
              have HP : Aside0 (BRow (wr.setCell ⟨g, j, none⟩ (.int .u8 85)) g ((r.take (j + 1)).map swI ++ r.drop (j + 1))) := by
                have := HR.out.put (j : Int) 85
                rw [Int.toNat_natCast, hrow 85 rfl] at this
                exact ⟨this⟩
              have HP2 : Aside0 (Below w.heap.size w (wr.setCell ⟨g, j, none⟩ (.int .u8 85))) := ⟨below_set HW.out GG.out⟩
              clear hrow hll hrd HR
              go_wp2
              go_roundw
              case rel => exact ⟨j + 1, by go_num, by omega, HP, HP2⟩
              case measure => simp [intOf]; omega
            · have b85 : (x == 85) = false := beq_eq_false_iff_ne.mpr h85
              have b68 : (x == 68) = false := beq_eq_false_iff_ne.mpr h68
              have hsw : swI x = x := by unfold swI; rw [if_neg h85, if_neg h68]
              have HP : Aside0 (BRow wr g ((r.take (j + 1)).map swI ++ r.drop (j + 1))) := by
                have h1 := hrow x hsw
                have h2 : ((r.take j).map swI ++ r.drop j).set j x = (r.take j).map swI ++ r.drop j := by
                  rw [List.set_append_right _ _ (by simp; omega), show j - (List.map swI (List.take j r)).length = 0 by simp; omega, List.drop_eq_getElem_cons hlt, List.set_cons_zero, hxe]
                rw [h2] at h1
                rw [← h1]
                exact HR
              clear hrow hll hrd HR
              go_wp2
              go_roundw
              case rel => exact ⟨j + 1, by go_num, by omega, HP, HW⟩
              case measure => simp [intOf]; omega
        · obtain rfl : j = r.length := by omega
          have hge : ¬ (r.length < a0.size) := by rw [← HL.out]; exact hlt
          have hC : (Kd.int .u8).C wr (some ⟨g, 0, none⟩) a0.size (r.map swI) := by
            have h1 := HR.out
            rw [List.take_length, List.drop_length, List.append_nil] at h1
            have h2 := h1.C (by rw [List.length_map]; exact hmx)
            rw [List.length_map, HL.out] at h2
            exact h2
          have hcv := Kd.C_string (P := Try.prog) (A := some ⟨g, 0, none⟩) (c := c) (src := 22) (dst := 9) (e := 5) (by kernel_rfl) (by kernel_rfl) (by kernel_rfl) hC
          go_wp2
          go_ret2
          exact ⟨rfl, HW.out⟩
    · rw [if_neg hs] at h
      cases h
end

end Go.Proofs.Ytlodpobegdbhaaa.X
