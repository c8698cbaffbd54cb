/- Contracts of functions that the law reaches, printed by a program of this session; Lean checks them. -/
import Derived.Test.YtlodpobegdbhaaaCPathCountsX0
import Derived.Test.YtlodpobegdbhaaaCPathCountsX1
import Derived.Test.YtlodpobegdbhaaaCPathCountsX21
import Derived.Test.YtlodpobegdbhaaaCPathCountsX4
import Derived.Test.YtlodpobegdbhaaaCPathCountsXZ
namespace Go.Proofs.Ytlodpobegdbhaaa.X
open Go.RowKit Go.Proofs.YtlodpobegdbhaaaW.PrintWords Go.Proofs.YtlodpobegdbhaaaW.PrintLast Go.Proofs.YtlodpobegdbhaaaW.PrintMore
attribute [local go_sem] max2_int min2_int max_two min_two max_three min_three max_four min_four   -- for this text's walks alone
set_option linter.unusedVariables false
set_option linter.unusedSimpArgs false

/-! ### spec_l09Numbers: function 135 -/
def spec_l09Numbers.f (s0_0 : List Int) (s0_1 : Int) (s0_2 : Int) (a1 : Int) : Option (Int × Int × Int × Int × Int × Int) := (spec_l01Near.f s0_0 s0_1 s0_2 a1).bind fun bt793 => ((spec_l01Next.f s0_0 bt793.2.1 bt793.2.2 5).bind fun bt796 => ((spec_l01Pick.f s0_0 bt796.2.1 bt796.2.2 (([0, 0, 1, bt796.1] : List Int))).bind fun bt802 => ((spec_l01Next.f s0_0 bt802.2.1 bt802.2.2 5).bind fun bt805 => ((spec_l01Pick.f s0_0 bt805.2.1 bt805.2.2 (([0, 0, 1, bt805.1] : List Int))).bind fun bt811 => ((spec_l01Next.f s0_0 bt811.2.1 bt811.2.2 30).bind fun bt814 => (if bt814.1 = 0 then ((spec_l01Pick.f s0_0 bt814.2.1 bt814.2.2 (([(-1), 25, 24] : List Int))).bind fun bt820 => ((spec_l01Near.f s0_0 bt820.2.1 bt820.2.2 24).bind fun bt823 => ((spec_l01Pick.f s0_0 bt823.2.1 bt823.2.2 (([1, 2, 3, 24, bt823.1] : List Int))).bind fun bt829 => (some (bt793.1, bt820.1, bt811.1, bt829.1, bt829.2.1, bt829.2.2))))) else ((spec_l01Near.f s0_0 bt814.2.1 bt814.2.2 24).bind fun bt832 => ((spec_l01Pick.f s0_0 bt832.2.1 bt832.2.2 (([1, 2, 3, 24, bt832.1] : List Int))).bind fun bt838 => (some (bt793.1, bt802.1, bt811.1, bt838.1, bt838.2.1, bt838.2.2))))))))))
set_option maxHeartbeats 8000000 in
set_option maxRecDepth 100000 in
theorem spec_l09Numbers.calls (g : Nat) (s0_0 : List Int) (s0_1 : Int) (s0_2 : Int) (a1 : Int) (r1 : Int) (r2 : Int) (r3 : Int) (r4 : Int) (r5 : Int) (r6 : Int) (w0 w : World) (hI : IsS176 w0 w g s0_0 s0_1 s0_2) (hB : Below w0.heap.size w0 w) (h : spec_l09Numbers.f s0_0 s0_1 s0_2 a1 = some (r1, r2, r3, r4, r5, r6)) :
  Calls Try.prog 135 #[.pointer (some ⟨g, 0, none⟩), .int .i64 a1] w fun e w' => e = .returned (.tuple #[.int .i64 r1, .int .i64 r2, .int .i64 r3, .int .i64 r4]) ∧ IsS176 w0 w' g s0_0 r5 r6 ∧ Below w0.heap.size w0 w' ∧ KeepBut w w' g none := by
 have HI0 := Aside0.mk hI
 have HK := Aside0.mk (KeepBut.refl w g none)
 have HL := Aside0.mk hB.size
 clear hI
 have HW0 := Aside0.mk hB.size
 have HB := Aside0.mk hB
 clear hB
 have H : ((spec_l01Near.f s0_0 s0_1 s0_2 a1).bind fun bt793 => ((spec_l01Next.f s0_0 bt793.2.1 bt793.2.2 5).bind fun bt796 => ((spec_l01Pick.f s0_0 bt796.2.1 bt796.2.2 (([0, 0, 1, bt796.1] : List Int))).bind fun bt802 => ((spec_l01Next.f s0_0 bt802.2.1 bt802.2.2 5).bind fun bt805 => ((spec_l01Pick.f s0_0 bt805.2.1 bt805.2.2 (([0, 0, 1, bt805.1] : List Int))).bind fun bt811 => ((spec_l01Next.f s0_0 bt811.2.1 bt811.2.2 30).bind fun bt814 => (if bt814.1 = 0 then ((spec_l01Pick.f s0_0 bt814.2.1 bt814.2.2 (([(-1), 25, 24] : List Int))).bind fun bt820 => ((spec_l01Near.f s0_0 bt820.2.1 bt820.2.2 24).bind fun bt823 => ((spec_l01Pick.f s0_0 bt823.2.1 bt823.2.2 (([1, 2, 3, 24, bt823.1] : List Int))).bind fun bt829 => (some (bt793.1, bt820.1, bt811.1, bt829.1, bt829.2.1, bt829.2.2))))) else ((spec_l01Near.f s0_0 bt814.2.1 bt814.2.2 24).bind fun bt832 => ((spec_l01Pick.f s0_0 bt832.2.1 bt832.2.2 (([1, 2, 3, 24, bt832.1] : List Int))).bind fun bt838 => (some (bt793.1, bt802.1, bt811.1, bt838.1, bt838.2.1, bt838.2.2))))))))))) = some (r1, r2, r3, r4, r5, r6) := h
 clear h
 replace H := Option.bind_eq_some_iff.mp H
 obtain ⟨⟨t793, t794, t795⟩, A30, H⟩ := H
 try dsimp only at H
 have A3 := Aside0.mk A30
 clear A30
 replace H := Option.bind_eq_some_iff.mp H
 obtain ⟨⟨t796, t797, t798⟩, A40, H⟩ := H
 try dsimp only at H
 have A4 := Aside0.mk A40
 clear A40
 obtain ⟨y799, hy799⟩ : ∃ y_ : List Int, y_ = (([0, 0, 1, t796] : List Int)) := ⟨_, rfl⟩
 replace H : ((spec_l01Pick.f s0_0 t797 t798 y799).bind fun bt802 => ((spec_l01Next.f s0_0 bt802.2.1 bt802.2.2 5).bind fun bt805 => ((spec_l01Pick.f s0_0 bt805.2.1 bt805.2.2 (([0, 0, 1, bt805.1] : List Int))).bind fun bt811 => ((spec_l01Next.f s0_0 bt811.2.1 bt811.2.2 30).bind fun bt814 => (if bt814.1 = 0 then ((spec_l01Pick.f s0_0 bt814.2.1 bt814.2.2 (([(-1), 25, 24] : List Int))).bind fun bt820 => ((spec_l01Near.f s0_0 bt820.2.1 bt820.2.2 24).bind fun bt823 => ((spec_l01Pick.f s0_0 bt823.2.1 bt823.2.2 (([1, 2, 3, 24, bt823.1] : List Int))).bind fun bt829 => (some (t793, bt820.1, bt811.1, bt829.1, bt829.2.1, bt829.2.2))))) else ((spec_l01Near.f s0_0 bt814.2.1 bt814.2.2 24).bind fun bt832 => ((spec_l01Pick.f s0_0 bt832.2.1 bt832.2.2 (([1, 2, 3, 24, bt832.1] : List Int))).bind fun bt838 => (some (t793, bt802.1, bt811.1, bt838.1, bt838.2.1, bt838.2.2))))))))) = some (r1, r2, r3, r4, r5, r6) := by have hq_ := hy799; exact ZqH
 have Ny799 := Aside0.mk hy799
 clear hy799
 replace H := Option.bind_eq_some_iff.mp H
 obtain ⟨⟨t802, t803, t804⟩, A50, H⟩ := H
 try dsimp only at H
 have A5 := Aside0.mk A50
 clear A50
 replace H := Option.bind_eq_some_iff.mp H
 obtain ⟨⟨t805, t806, t807⟩, A60, H⟩ := H
 try dsimp only at H
 have A6 := Aside0.mk A60
 clear A60
 obtain ⟨y808, hy808⟩ : ∃ y_ : List Int, y_ = (([0, 0, 1, t805] : List Int)) := ⟨_, rfl⟩
 replace H : ((spec_l01Pick.f s0_0 t806 t807 y808).bind fun bt811 => ((spec_l01Next.f s0_0 bt811.2.1 bt811.2.2 30).bind fun bt814 => (if bt814.1 = 0 then ((spec_l01Pick.f s0_0 bt814.2.1 bt814.2.2 (([(-1), 25, 24] : List Int))).bind fun bt820 => ((spec_l01Near.f s0_0 bt820.2.1 bt820.2.2 24).bind fun bt823 => ((spec_l01Pick.f s0_0 bt823.2.1 bt823.2.2 (([1, 2, 3, 24, bt823.1] : List Int))).bind fun bt829 => (some (t793, bt820.1, bt811.1, bt829.1, bt829.2.1, bt829.2.2))))) else ((spec_l01Near.f s0_0 bt814.2.1 bt814.2.2 24).bind fun bt832 => ((spec_l01Pick.f s0_0 bt832.2.1 bt832.2.2 (([1, 2, 3, 24, bt832.1] : List Int))).bind fun bt838 => (some (t793, t802, bt811.1, bt838.1, bt838.2.1, bt838.2.2))))))) = some (r1, r2, r3, r4, r5, r6) := by have hq_ := hy808; exact ZqH
 have Ny808 := Aside0.mk hy808
 clear hy808
 replace H := Option.bind_eq_some_iff.mp H
 obtain ⟨⟨t811, t812, t813⟩, A70, H⟩ := H
 try dsimp only at H
 have A7 := Aside0.mk A70
 clear A70
 replace H := Option.bind_eq_some_iff.mp H
 obtain ⟨⟨t814, t815, t816⟩, A80, H⟩ := H
 try dsimp only at H
 have A8 := Aside0.mk A80
 clear A80
 by_cases c9 : t814 = 0
 ·rw [if_pos c9] at H
  have c9b0 : (t814 == 0) = true := beq_iff_eq.mpr c9
  have c9b1 : (t814 != 0) = false := bne_eq_false_iff_eq.mpr c9
  clear c9
  obtain ⟨y817, hy817⟩ : ∃ y_ : List Int, y_ = (([(-1), 25, 24] : List Int)) := ⟨_, rfl⟩
  replace H : ((spec_l01Pick.f s0_0 t815 t816 y817).bind fun bt820 => ((spec_l01Near.f s0_0 bt820.2.1 bt820.2.2 24).bind fun bt823 => ((spec_l01Pick.f s0_0 bt823.2.1 bt823.2.2 (([1, 2, 3, 24, bt823.1] : List Int))).bind fun bt829 => (some (t793, bt820.1, t811, bt829.1, bt829.2.1, bt829.2.2))))) = some (r1, r2, r3, r4, r5, r6) := by have hq_ := hy817; exact ZqH
  have Ny817 := Aside0.mk hy817
  clear hy817
  replace H := Option.bind_eq_some_iff.mp H
  obtain ⟨⟨t820, t821, t822⟩, A100, H⟩ := H
  try dsimp only at H
  have A10 := Aside0.mk A100
  clear A100
  replace H := Option.bind_eq_some_iff.mp H
  obtain ⟨⟨t823, t824, t825⟩, A110, H⟩ := H
  try dsimp only at H
  have A11 := Aside0.mk A110
  clear A110
  obtain ⟨y826, hy826⟩ : ∃ y_ : List Int, y_ = (([1, 2, 3, 24, t823] : List Int)) := ⟨_, rfl⟩
  replace H : ((spec_l01Pick.f s0_0 t824 t825 y826).bind fun bt829 => (some (t793, t820, t811, bt829.1, bt829.2.1, bt829.2.2))) = some (r1, r2, r3, r4, r5, r6) := by have hq_ := hy826; exact ZqH
  have Ny826 := Aside0.mk hy826
  clear hy826
  replace H := Option.bind_eq_some_iff.mp H
  obtain ⟨⟨t829, t830, t831⟩, A120, H⟩ := H
  try dsimp only at H
  have A12 := Aside0.mk A120
  clear A120
  simp only [Option.some.injEq, Prod.mk.injEq] at H
  obtain ⟨rfl, rfl, rfl, rfl, rfl, rfl⟩ := H
  go_enter Try.func135, Try.ntmps135
  go_wp2_with (first | ((with_reducible refine gate_callee (f := 144) rfl ?_); refine goesL_ (some 13) rfl rfl Try.func144 (by kernel_rfl) rfl #[.pointer (some ⟨g, 0, none⟩), .int .i64 a1] rfl ZA ?_; (with_reducible refine (spec_l01Near.calls g s0_0 s0_1 s0_2 a1 t793 t794 t795 w0 _ ?side1 ?side2 A3.out).mono ?_); (case side1 => exact Zq3); (case side2 => exact Zq4); rintro e w13 ⟨rfl, hi, hb, hk⟩; refine ⟨_, rfl, ?_⟩; have n0_ := Aside0.mk (KeepBut.trans (by exact Zq5) hk (.inl rfl)); have n1_ := Aside0.mk (hb); have n2_ := Aside0.mk (hi); clear HK HB HI0; have HK := n0_; have HB := n1_; have HI0 := n2_; clear n0_ n1_ n2_; (try clear hb); (try clear hk); (try clear hi)) | ((with_reducible refine gate_callee (f := 122) rfl ?_); refine goesL_ (some 16) rfl rfl Try.func122 (by kernel_rfl) rfl #[.pointer (some ⟨g, 0, none⟩), .int .i64 5] rfl ZA ?_; (with_reducible refine (spec_l01Next.calls g s0_0 t794 t795 5 t796 t797 t798 w0 _ ?side1 ?side2 A4.out).mono ?_); (case side1 => exact Zq3); (case side2 => exact Zq4); rintro e w14 ⟨rfl, hi, hb, hk⟩; refine ⟨_, rfl, ?_⟩; have n0_ := Aside0.mk (KeepBut.trans (by exact Zq5) hk (.inl rfl)); have n1_ := Aside0.mk (hb); have n2_ := Aside0.mk (hi); clear HK HB HI0; have HK := n0_; have HB := n1_; have HI0 := n2_; clear n0_ n1_ n2_; (try clear hb); (try clear hk); (try clear hi)) | ((with_reducible refine gate_dst (N := 17) rfl ?_); refine Kd.R_lit (Kd.int .i64) _ 2 ?hg (N := 17) ?hd (xs := ([0, 0, 1, t796] : List Int)) (inner := [.int .i64 0, .int .i64 0, .int .i64 1, .int .i64 t796]) (ok := fun _ => True) (okp := fun _ => True) ?hr ?hp (fun _ hk => hk) trivial (Below.refl _ _) (Nat.le_refl _) (by simp) ?_; (case hd => rfl); (case hg => rfl); (case hr => exact ZqT); (case hp => exact (Reps.one (show Kd.M (Kd.int .i64) _ _ _ 0 [.int .i64 0] from rfl) (Reps.one (show Kd.M (Kd.int .i64) _ _ _ 0 [.int .i64 0] from rfl) (Reps.one (show Kd.M (Kd.int .i64) _ _ _ 1 [.int .i64 1] from rfl) (Reps.one (show Kd.M (Kd.int .i64) _ _ _ t796 [.int .i64 t796] from rfl) (Reps.none _ _)))))); intro v800 w15 ho16 hb hg_ hnew_; clear hg_ hnew_; (first | rw [← Ny799.out] at ho16 | (simp only [Int.reduceToNat] at ho16; rw [← Ny799.out] at ho16)); have n0_ := Aside0.mk (Kd.R_lower ho16 (keep_size (w := w) (g := g) (row := none) (by exact Zq5))); have n1_ := Aside0.mk (IsS176.below (by exact Zq3) hb); have n2_ := Aside0.mk (KeepBut.trans (by exact Zq5) (KeepBut.of_below hb g none) (.inl rfl)); have n3_ := Aside0.mk (below_step (by exact Zq4) hb); clear HI0 HK HB; have HO801 := n0_; have HI0 := n1_; have HK := n2_; have HB := n3_; clear n0_ n1_ n2_ n3_; clear hb ho16; obtain ⟨Ao17, co17, eo17⟩ := Kd.R_slice HO801.out; subst eo17) | ((with_reducible refine gate_callee (f := 136) rfl ?_); refine goesL_ (some 18) rfl rfl Try.func136 (by kernel_rfl) rfl #[.pointer (some ⟨g, 0, none⟩), .slice Ao17 y799.length co17] rfl ZA ?_; (with_reducible refine (spec_l01Pick.calls g s0_0 t797 t798 _ _ y799 t802 t803 t804 w0 _ ?side1 ?side2 ?side3 ?side4 ?side5 A5.out).mono ?_); (case side1 => exact Zq3); (case side2 => exact Zq4); (case side3 => exact ZqC ((Kd.R_reads' HO801.out).2.2)); (case side4 => exact (Kd.R_reads' HO801.out).2.1); (case side5 => exact far_slice (IsS176.own_ne HI0.out HO801.out (by decide))); rintro e w18 ⟨rfl, hi, hb, hk⟩; refine ⟨_, rfl, ?_⟩; have n0_ := Aside0.mk (Kd.R_mono (Kd.R_keep (IsS176.apart (show IsS176 w0 _ g s0_0 t797 t798 from by exact Zq3) (ZR HO801) (by decide)) hk (fun _ h => h.2)) (fun _ h => h.1)); have n1_ := Aside0.mk (KeepBut.trans (by exact Zq5) hk (.inl rfl)); have n2_ := Aside0.mk (hb); have n3_ := Aside0.mk (hi); clear HO801 HK HB HI0; have HO801 := n0_; have HK := n1_; have HB := n2_; have HI0 := n3_; clear n0_ n1_ n2_ n3_; (try clear hb); (try clear hk); (try clear hi)) | ((with_reducible refine gate_callee (f := 122) rfl ?_); refine goesL_ (some 21) rfl rfl Try.func122 (by kernel_rfl) rfl #[.pointer (some ⟨g, 0, none⟩), .int .i64 5] rfl ZA ?_; (with_reducible refine (spec_l01Next.calls g s0_0 t803 t804 5 t805 t806 t807 w0 _ ?side1 ?side2 A6.out).mono ?_); (case side1 => exact Zq3); (case side2 => exact Zq4); rintro e w19 ⟨rfl, hi, hb, hk⟩; refine ⟨_, rfl, ?_⟩; have n0_ := Aside0.mk (Kd.R_mono (Kd.R_keep (IsS176.apart (show IsS176 w0 _ g s0_0 t803 t804 from by exact Zq3) (ZR HO801) (by decide)) hk (fun _ h => h.2)) (fun _ h => h.1)); have n1_ := Aside0.mk (KeepBut.trans (by exact Zq5) hk (.inl rfl)); have n2_ := Aside0.mk (hb); have n3_ := Aside0.mk (hi); clear HO801 HK HB HI0; have HO801 := n0_; have HK := n1_; have HB := n2_; have HI0 := n3_; clear n0_ n1_ n2_ n3_; (try clear hb); (try clear hk); (try clear hi)) | ((with_reducible refine gate_dst (N := 22) rfl ?_); refine Kd.R_lit (Kd.int .i64) _ 2 ?hg (N := 22) ?hd (xs := ([0, 0, 1, t805] : List Int)) (inner := [.int .i64 0, .int .i64 0, .int .i64 1, .int .i64 t805]) (ok := fun _ => True) (okp := fun _ => True) ?hr ?hp (fun _ hk => hk) trivial (Below.refl _ _) (Nat.le_refl _) (by simp) ?_; (case hd => rfl); (case hg => rfl); (case hr => exact ZqT); (case hp => exact (Reps.one (show Kd.M (Kd.int .i64) _ _ _ 0 [.int .i64 0] from rfl) (Reps.one (show Kd.M (Kd.int .i64) _ _ _ 0 [.int .i64 0] from rfl) (Reps.one (show Kd.M (Kd.int .i64) _ _ _ 1 [.int .i64 1] from rfl) (Reps.one (show Kd.M (Kd.int .i64) _ _ _ t805 [.int .i64 t805] from rfl) (Reps.none _ _)))))); intro v809 w20 ho21 hb hg_ hnew_; clear hg_ hnew_; (first | rw [← Ny808.out] at ho21 | (simp only [Int.reduceToNat] at ho21; rw [← Ny808.out] at ho21)); have n0_ := Aside0.mk (Kd.R_elder' (ZR HO801) (Kd.R_base ho21) hb); have n1_ := Aside0.mk (Kd.R_lower (Kd.R_new' ho21 (Kd.R_lt (ZR HO801))) (keep_size (w := w) (g := g) (row := none) (by exact Zq5))); have n2_ := Aside0.mk (IsS176.below (by exact Zq3) hb); have n3_ := Aside0.mk (KeepBut.trans (by exact Zq5) (KeepBut.of_below hb g none) (.inl rfl)); have n4_ := Aside0.mk (below_step (by exact Zq4) hb); clear HO801 HI0 HK HB; have HO801 := n0_; have HO810 := n1_; have HI0 := n2_; have HK := n3_; have HB := n4_; clear n0_ n1_ n2_ n3_ n4_; clear hb ho21; obtain ⟨Ao22, co22, eo22⟩ := Kd.R_slice HO810.out; subst eo22) | ((with_reducible refine gate_callee (f := 136) rfl ?_); refine goesL_ (some 23) rfl rfl Try.func136 (by kernel_rfl) rfl #[.pointer (some ⟨g, 0, none⟩), .slice Ao22 y808.length co22] rfl ZA ?_; (with_reducible refine (spec_l01Pick.calls g s0_0 t806 t807 _ _ y808 t811 t812 t813 w0 _ ?side1 ?side2 ?side3 ?side4 ?side5 A7.out).mono ?_); (case side1 => exact Zq3); (case side2 => exact Zq4); (case side3 => exact ZqC ((Kd.R_reads' HO810.out).2.2)); (case side4 => exact (Kd.R_reads' HO810.out).2.1); (case side5 => exact far_slice (IsS176.own_ne HI0.out HO810.out (by decide))); rintro e w23 ⟨rfl, hi, hb, hk⟩; refine ⟨_, rfl, ?_⟩; have n0_ := Aside0.mk (Kd.R_mono (Kd.R_keep (IsS176.apart (show IsS176 w0 _ g s0_0 t806 t807 from by exact Zq3) (ZR HO801) (by decide)) hk (fun _ h => h.2)) (fun _ h => h.1)); have n1_ := Aside0.mk (Kd.R_mono (Kd.R_keep (IsS176.apart (show IsS176 w0 _ g s0_0 t806 t807 from by exact Zq3) (ZR HO810) (by decide)) hk (fun _ h => h.2)) (fun _ h => h.1)); have n2_ := Aside0.mk (KeepBut.trans (by exact Zq5) hk (.inl rfl)); have n3_ := Aside0.mk (hb); have n4_ := Aside0.mk (hi); clear HO801 HO810 HK HB HI0; have HO801 := n0_; have HO810 := n1_; have HK := n2_; have HB := n3_; have HI0 := n4_; clear n0_ n1_ n2_ n3_ n4_; (try clear hb); (try clear hk); (try clear hi)) | ((with_reducible refine gate_callee (f := 122) rfl ?_); refine goesL_ (some 25) rfl rfl Try.func122 (by kernel_rfl) rfl #[.pointer (some ⟨g, 0, none⟩), .int .i64 30] rfl ZA ?_; (with_reducible refine (spec_l01Next.calls g s0_0 t812 t813 30 t814 t815 t816 w0 _ ?side1 ?side2 A8.out).mono ?_); (case side1 => exact Zq3); (case side2 => exact Zq4); rintro e w24 ⟨rfl, hi, hb, hk⟩; refine ⟨_, rfl, ?_⟩; have n0_ := Aside0.mk (Kd.R_mono (Kd.R_keep (IsS176.apart (show IsS176 w0 _ g s0_0 t812 t813 from by exact Zq3) (ZR HO801) (by decide)) hk (fun _ h => h.2)) (fun _ h => h.1)); have n1_ := Aside0.mk (Kd.R_mono (Kd.R_keep (IsS176.apart (show IsS176 w0 _ g s0_0 t812 t813 from by exact Zq3) (ZR HO810) (by decide)) hk (fun _ h => h.2)) (fun _ h => h.1)); have n2_ := Aside0.mk (KeepBut.trans (by exact Zq5) hk (.inl rfl)); have n3_ := Aside0.mk (hb); have n4_ := Aside0.mk (hi); clear HO801 HO810 HK HB HI0; have HO801 := n0_; have HO810 := n1_; have HK := n2_; have HB := n3_; have HI0 := n4_; clear n0_ n1_ n2_ n3_ n4_; (try clear hb); (try clear hk); (try clear hi)) | ((with_reducible refine gate_dst (N := 28) rfl ?_); refine Kd.R_lit (Kd.int .i64) _ 2 ?hg (N := 28) ?hd (xs := ([(-1), 25, 24] : List Int)) (inner := [.int .i64 (-1), .int .i64 25, .int .i64 24]) (ok := fun _ => True) (okp := fun _ => True) ?hr ?hp (fun _ hk => hk) trivial (Below.refl _ _) (Nat.le_refl _) (by simp) ?_; (case hd => rfl); (case hg => rfl); (case hr => exact ZqT); (case hp => exact (Reps.one (show Kd.M (Kd.int .i64) _ _ _ (-1) [.int .i64 (-1)] from rfl) (Reps.one (show Kd.M (Kd.int .i64) _ _ _ 25 [.int .i64 25] from rfl) (Reps.one (show Kd.M (Kd.int .i64) _ _ _ 24 [.int .i64 24] from rfl) (Reps.none _ _))))); intro v818 w25 ho26 hb hg_ hnew_; clear hg_ hnew_; (first | rw [← Ny817.out] at ho26 | (simp only [Int.reduceToNat] at ho26; rw [← Ny817.out] at ho26)); have n0_ := Aside0.mk (Kd.R_elder' (ZR HO801) (Kd.R_base ho26) hb); have n1_ := Aside0.mk (Kd.R_elder' (ZR HO810) (Kd.R_base ho26) hb); have n2_ := Aside0.mk (Kd.R_lower (Kd.R_new' (Kd.R_new' ho26 (Kd.R_lt (ZR HO801))) (Kd.R_lt (ZR HO810))) (keep_size (w := w) (g := g) (row := none) (by exact Zq5))); have n3_ := Aside0.mk (IsS176.below (by exact Zq3) hb); have n4_ := Aside0.mk (KeepBut.trans (by exact Zq5) (KeepBut.of_below hb g none) (.inl rfl)); have n5_ := Aside0.mk (below_step (by exact Zq4) hb); clear HO801 HO810 HI0 HK HB; have HO801 := n0_; have HO810 := n1_; have HO819 := n2_; have HI0 := n3_; have HK := n4_; have HB := n5_; clear n0_ n1_ n2_ n3_ n4_ n5_; clear hb ho26; obtain ⟨Ao27, co27, eo27⟩ := Kd.R_slice HO819.out; subst eo27) | ((with_reducible refine gate_callee (f := 136) rfl ?_); refine goesL_ (some 29) rfl rfl Try.func136 (by kernel_rfl) rfl #[.pointer (some ⟨g, 0, none⟩), .slice Ao27 y817.length co27] rfl ZA ?_; (with_reducible refine (spec_l01Pick.calls g s0_0 t815 t816 _ _ y817 t820 t821 t822 w0 _ ?side1 ?side2 ?side3 ?side4 ?side5 A10.out).mono ?_); (case side1 => exact Zq3); (case side2 => exact Zq4); (case side3 => exact ZqC ((Kd.R_reads' HO819.out).2.2)); (case side4 => exact (Kd.R_reads' HO819.out).2.1); (case side5 => exact far_slice (IsS176.own_ne HI0.out HO819.out (by decide))); rintro e w28 ⟨rfl, hi, hb, hk⟩; refine ⟨_, rfl, ?_⟩; have n0_ := Aside0.mk (Kd.R_mono (Kd.R_keep (IsS176.apart (show IsS176 w0 _ g s0_0 t815 t816 from by exact Zq3) (ZR HO801) (by decide)) hk (fun _ h => h.2)) (fun _ h => h.1)); have n1_ := Aside0.mk (Kd.R_mono (Kd.R_keep (IsS176.apart (show IsS176 w0 _ g s0_0 t815 t816 from by exact Zq3) (ZR HO810) (by decide)) hk (fun _ h => h.2)) (fun _ h => h.1)); have n2_ := Aside0.mk (Kd.R_mono (Kd.R_keep (IsS176.apart (show IsS176 w0 _ g s0_0 t815 t816 from by exact Zq3) (ZR HO819) (by decide)) hk (fun _ h => h.2)) (fun _ h => h.1)); have n3_ := Aside0.mk (KeepBut.trans (by exact Zq5) hk (.inl rfl)); have n4_ := Aside0.mk (hb); have n5_ := Aside0.mk (hi); clear HO801 HO810 HO819 HK HB HI0; have HO801 := n0_; have HO810 := n1_; have HO819 := n2_; have HK := n3_; have HB := n4_; have HI0 := n5_; clear n0_ n1_ n2_ n3_ n4_ n5_; (try clear hb); (try clear hk); (try clear hi)) | ((with_reducible refine gate_callee (f := 144) rfl ?_); refine goesL_ (some 35) rfl rfl Try.func144 (by kernel_rfl) rfl #[.pointer (some ⟨g, 0, none⟩), .int .i64 24] rfl ZA ?_; (with_reducible refine (spec_l01Near.calls g s0_0 t821 t822 24 t823 t824 t825 w0 _ ?side1 ?side2 A11.out).mono ?_); (case side1 => exact Zq3); (case side2 => exact Zq4); rintro e w29 ⟨rfl, hi, hb, hk⟩; refine ⟨_, rfl, ?_⟩; have n0_ := Aside0.mk (Kd.R_mono (Kd.R_keep (IsS176.apart (show IsS176 w0 _ g s0_0 t821 t822 from by exact Zq3) (ZR HO801) (by decide)) hk (fun _ h => h.2)) (fun _ h => h.1)); have n1_ := Aside0.mk (Kd.R_mono (Kd.R_keep (IsS176.apart (show IsS176 w0 _ g s0_0 t821 t822 from by exact Zq3) (ZR HO810) (by decide)) hk (fun _ h => h.2)) (fun _ h => h.1)); have n2_ := Aside0.mk (Kd.R_mono (Kd.R_keep (IsS176.apart (show IsS176 w0 _ g s0_0 t821 t822 from by exact Zq3) (ZR HO819) (by decide)) hk (fun _ h => h.2)) (fun _ h => h.1)); have n3_ := Aside0.mk (KeepBut.trans (by exact Zq5) hk (.inl rfl)); have n4_ := Aside0.mk (hb); have n5_ := Aside0.mk (hi); clear HO801 HO810 HO819 HK HB HI0; have HO801 := n0_; have HO810 := n1_; have HO819 := n2_; have HK := n3_; have HB := n4_; have HI0 := n5_; clear n0_ n1_ n2_ n3_ n4_ n5_; (try clear hb); (try clear hk); (try clear hi)) | ((with_reducible refine gate_dst (N := 36) rfl ?_); refine Kd.R_lit (Kd.int .i64) _ 2 ?hg (N := 36) ?hd (xs := ([1, 2, 3, 24, t823] : List Int)) (inner := [.int .i64 1, .int .i64 2, .int .i64 3, .int .i64 24, .int .i64 t823]) (ok := fun _ => True) (okp := fun _ => True) ?hr ?hp (fun _ hk => hk) trivial (Below.refl _ _) (Nat.le_refl _) (by simp) ?_; (case hd => rfl); (case hg => rfl); (case hr => exact ZqT); (case hp => exact (Reps.one (show Kd.M (Kd.int .i64) _ _ _ 1 [.int .i64 1] from rfl) (Reps.one (show Kd.M (Kd.int .i64) _ _ _ 2 [.int .i64 2] from rfl) (Reps.one (show Kd.M (Kd.int .i64) _ _ _ 3 [.int .i64 3] from rfl) (Reps.one (show Kd.M (Kd.int .i64) _ _ _ 24 [.int .i64 24] from rfl) (Reps.one (show Kd.M (Kd.int .i64) _ _ _ t823 [.int .i64 t823] from rfl) (Reps.none _ _))))))); intro v827 w30 ho31 hb hg_ hnew_; clear hg_ hnew_; (first | rw [← Ny826.out] at ho31 | (simp only [Int.reduceToNat] at ho31; rw [← Ny826.out] at ho31)); have n0_ := Aside0.mk (Kd.R_elder' (ZR HO801) (Kd.R_base ho31) hb); have n1_ := Aside0.mk (Kd.R_elder' (ZR HO810) (Kd.R_base ho31) hb); have n2_ := Aside0.mk (Kd.R_elder' (ZR HO819) (Kd.R_base ho31) hb); have n3_ := Aside0.mk (Kd.R_lower (Kd.R_new' (Kd.R_new' (Kd.R_new' ho31 (Kd.R_lt (ZR HO801))) (Kd.R_lt (ZR HO810))) (Kd.R_lt (ZR HO819))) (keep_size (w := w) (g := g) (row := none) (by exact Zq5))); have n4_ := Aside0.mk (IsS176.below (by exact Zq3) hb); have n5_ := Aside0.mk (KeepBut.trans (by exact Zq5) (KeepBut.of_below hb g none) (.inl rfl)); have n6_ := Aside0.mk (below_step (by exact Zq4) hb); clear HO801 HO810 HO819 HI0 HK HB; have HO801 := n0_; have HO810 := n1_; have HO819 := n2_; have HO828 := n3_; have HI0 := n4_; have HK := n5_; have HB := n6_; clear n0_ n1_ n2_ n3_ n4_ n5_ n6_; clear hb ho31; obtain ⟨Ao32, co32, eo32⟩ := Kd.R_slice HO828.out; subst eo32) | ((with_reducible refine gate_callee (f := 136) rfl ?_); refine goesL_ (some 37) rfl rfl Try.func136 (by kernel_rfl) rfl #[.pointer (some ⟨g, 0, none⟩), .slice Ao32 y826.length co32] rfl ZA ?_; (with_reducible refine (spec_l01Pick.calls g s0_0 t824 t825 _ _ y826 t829 t830 t831 w0 _ ?side1 ?side2 ?side3 ?side4 ?side5 A12.out).mono ?_); (case side1 => exact Zq3); (case side2 => exact Zq4); (case side3 => exact ZqC ((Kd.R_reads' HO828.out).2.2)); (case side4 => exact (Kd.R_reads' HO828.out).2.1); (case side5 => exact far_slice (IsS176.own_ne HI0.out HO828.out (by decide))); rintro e w33 ⟨rfl, hi, hb, hk⟩; refine ⟨_, rfl, ?_⟩; have n0_ := Aside0.mk (Kd.R_mono (Kd.R_keep (IsS176.apart (show IsS176 w0 _ g s0_0 t824 t825 from by exact Zq3) (ZR HO801) (by decide)) hk (fun _ h => h.2)) (fun _ h => h.1)); have n1_ := Aside0.mk (Kd.R_mono (Kd.R_keep (IsS176.apart (show IsS176 w0 _ g s0_0 t824 t825 from by exact Zq3) (ZR HO810) (by decide)) hk (fun _ h => h.2)) (fun _ h => h.1)); have n2_ := Aside0.mk (Kd.R_mono (Kd.R_keep (IsS176.apart (show IsS176 w0 _ g s0_0 t824 t825 from by exact Zq3) (ZR HO819) (by decide)) hk (fun _ h => h.2)) (fun _ h => h.1)); have n3_ := Aside0.mk (Kd.R_mono (Kd.R_keep (IsS176.apart (show IsS176 w0 _ g s0_0 t824 t825 from by exact Zq3) (ZR HO828) (by decide)) hk (fun _ h => h.2)) (fun _ h => h.1)); have n4_ := Aside0.mk (KeepBut.trans (by exact Zq5) hk (.inl rfl)); have n5_ := Aside0.mk (hb); have n6_ := Aside0.mk (hi); clear HO801 HO810 HO819 HO828 HK HB HI0; have HO801 := n0_; have HO810 := n1_; have HO819 := n2_; have HO828 := n3_; have HK := n4_; have HB := n5_; have HI0 := n6_; clear n0_ n1_ n2_ n3_ n4_ n5_ n6_; (try clear hb); (try clear hk); (try clear hi)))
  refine bodyPost_ret (results_list (rs := [.tmp 4, .tmp 5, .tmp 6, .tmp 7]) rfl (by simp) (.tmp (.tmp (.tmp (.tmp .nil))))) rfl ?_
  exact ⟨ZqR, by exact Zq3, by exact Zq4, by exact Zq5⟩
 ·rw [if_neg c9] at H
  have c9b0 : (t814 == 0) = false := beq_eq_false_iff_ne.mpr c9
  have c9b1 : (t814 != 0) = true := bne_iff_ne.mpr c9
  replace H := Option.bind_eq_some_iff.mp H
  obtain ⟨⟨t832, t833, t834⟩, A340, H⟩ := H
  try dsimp only at H
  have A34 := Aside0.mk A340
  clear A340
  obtain ⟨y835, hy835⟩ : ∃ y_ : List Int, y_ = (([1, 2, 3, 24, t832] : List Int)) := ⟨_, rfl⟩
  replace H : ((spec_l01Pick.f s0_0 t833 t834 y835).bind fun bt838 => (some (t793, t802, t811, bt838.1, bt838.2.1, bt838.2.2))) = some (r1, r2, r3, r4, r5, r6) := by have hq_ := hy835; exact ZqH
  have Ny835 := Aside0.mk hy835
  clear hy835
  replace H := Option.bind_eq_some_iff.mp H
  obtain ⟨⟨t838, t839, t840⟩, A350, H⟩ := H
  try dsimp only at H
  have A35 := Aside0.mk A350
  clear A350
  simp only [Option.some.injEq, Prod.mk.injEq] at H
  obtain ⟨rfl, rfl, rfl, rfl, rfl, rfl⟩ := H
  go_enter Try.func135, Try.ntmps135
  go_wp2_with (first | ((with_reducible refine gate_callee (f := 144) rfl ?_); refine goesL_ (some 13) rfl rfl Try.func144 (by kernel_rfl) rfl #[.pointer (some ⟨g, 0, none⟩), .int .i64 a1] rfl ZA ?_; (with_reducible refine (spec_l01Near.calls g s0_0 s0_1 s0_2 a1 t793 t794 t795 w0 _ ?side1 ?side2 A3.out).mono ?_); (case side1 => exact Zq3); (case side2 => exact Zq4); rintro e w36 ⟨rfl, hi, hb, hk⟩; refine ⟨_, rfl, ?_⟩; have n0_ := Aside0.mk (KeepBut.trans (by exact Zq5) hk (.inl rfl)); have n1_ := Aside0.mk (hb); have n2_ := Aside0.mk (hi); clear HK HB HI0; have HK := n0_; have HB := n1_; have HI0 := n2_; clear n0_ n1_ n2_; (try clear hb); (try clear hk); (try clear hi)) | ((with_reducible refine gate_callee (f := 122) rfl ?_); refine goesL_ (some 16) rfl rfl Try.func122 (by kernel_rfl) rfl #[.pointer (some ⟨g, 0, none⟩), .int .i64 5] rfl ZA ?_; (with_reducible refine (spec_l01Next.calls g s0_0 t794 t795 5 t796 t797 t798 w0 _ ?side1 ?side2 A4.out).mono ?_); (case side1 => exact Zq3); (case side2 => exact Zq4); rintro e w37 ⟨rfl, hi, hb, hk⟩; refine ⟨_, rfl, ?_⟩; have n0_ := Aside0.mk (KeepBut.trans (by exact Zq5) hk (.inl rfl)); have n1_ := Aside0.mk (hb); have n2_ := Aside0.mk (hi); clear HK HB HI0; have HK := n0_; have HB := n1_; have HI0 := n2_; clear n0_ n1_ n2_; (try clear hb); (try clear hk); (try clear hi)) | ((with_reducible refine gate_dst (N := 17) rfl ?_); refine Kd.R_lit (Kd.int .i64) _ 2 ?hg (N := 17) ?hd (xs := ([0, 0, 1, t796] : List Int)) (inner := [.int .i64 0, .int .i64 0, .int .i64 1, .int .i64 t796]) (ok := fun _ => True) (okp := fun _ => True) ?hr ?hp (fun _ hk => hk) trivial (Below.refl _ _) (Nat.le_refl _) (by simp) ?_; (case hd => rfl); (case hg => rfl); (case hr => exact ZqT); (case hp => exact (Reps.one (show Kd.M (Kd.int .i64) _ _ _ 0 [.int .i64 0] from rfl) (Reps.one (show Kd.M (Kd.int .i64) _ _ _ 0 [.int .i64 0] from rfl) (Reps.one (show Kd.M (Kd.int .i64) _ _ _ 1 [.int .i64 1] from rfl) (Reps.one (show Kd.M (Kd.int .i64) _ _ _ t796 [.int .i64 t796] from rfl) (Reps.none _ _)))))); intro v800 w38 ho39 hb hg_ hnew_; clear hg_ hnew_; (first | rw [← Ny799.out] at ho39 | (simp only [Int.reduceToNat] at ho39; rw [← Ny799.out] at ho39)); have n0_ := Aside0.mk (Kd.R_lower ho39 (keep_size (w := w) (g := g) (row := none) (by exact Zq5))); have n1_ := Aside0.mk (IsS176.below (by exact Zq3) hb); have n2_ := Aside0.mk (KeepBut.trans (by exact Zq5) (KeepBut.of_below hb g none) (.inl rfl)); have n3_ := Aside0.mk (below_step (by exact Zq4) hb); clear HI0 HK HB; have HO801 := n0_; have HI0 := n1_; have HK := n2_; have HB := n3_; clear n0_ n1_ n2_ n3_; clear hb ho39; obtain ⟨Ao40, co40, eo40⟩ := Kd.R_slice HO801.out; subst eo40) | ((with_reducible refine gate_callee (f := 136) rfl ?_); refine goesL_ (some 18) rfl rfl Try.func136 (by kernel_rfl) rfl #[.pointer (some ⟨g, 0, none⟩), .slice Ao40 y799.length co40] rfl ZA ?_; (with_reducible refine (spec_l01Pick.calls g s0_0 t797 t798 _ _ y799 t802 t803 t804 w0 _ ?side1 ?side2 ?side3 ?side4 ?side5 A5.out).mono ?_); (case side1 => exact Zq3); (case side2 => exact Zq4); (case side3 => exact ZqC ((Kd.R_reads' HO801.out).2.2)); (case side4 => exact (Kd.R_reads' HO801.out).2.1); (case side5 => exact far_slice (IsS176.own_ne HI0.out HO801.out (by decide))); rintro e w41 ⟨rfl, hi, hb, hk⟩; refine ⟨_, rfl, ?_⟩; have n0_ := Aside0.mk (Kd.R_mono (Kd.R_keep (IsS176.apart (show IsS176 w0 _ g s0_0 t797 t798 from by exact Zq3) (ZR HO801) (by decide)) hk (fun _ h => h.2)) (fun _ h => h.1)); have n1_ := Aside0.mk (KeepBut.trans (by exact Zq5) hk (.inl rfl)); have n2_ := Aside0.mk (hb); have n3_ := Aside0.mk (hi); clear HO801 HK HB HI0; have HO801 := n0_; have HK := n1_; have HB := n2_; have HI0 := n3_; clear n0_ n1_ n2_ n3_; (try clear hb); (try clear hk); (try clear hi)) | ((with_reducible refine gate_callee (f := 122) rfl ?_); refine goesL_ (some 21) rfl rfl Try.func122 (by kernel_rfl) rfl #[.pointer (some ⟨g, 0, none⟩), .int .i64 5] rfl ZA ?_; (with_reducible refine (spec_l01Next.calls g s0_0 t803 t804 5 t805 t806 t807 w0 _ ?side1 ?side2 A6.out).mono ?_); (case side1 => exact Zq3); (case side2 => exact Zq4); rintro e w42 ⟨rfl, hi, hb, hk⟩; refine ⟨_, rfl, ?_⟩; have n0_ := Aside0.mk (Kd.R_mono (Kd.R_keep (IsS176.apart (show IsS176 w0 _ g s0_0 t803 t804 from by exact Zq3) (ZR HO801) (by decide)) hk (fun _ h => h.2)) (fun _ h => h.1)); have n1_ := Aside0.mk (KeepBut.trans (by exact Zq5) hk (.inl rfl)); have n2_ := Aside0.mk (hb); have n3_ := Aside0.mk (hi); clear HO801 HK HB HI0; have HO801 := n0_; have HK := n1_; have HB := n2_; have HI0 := n3_; clear n0_ n1_ n2_ n3_; (try clear hb); (try clear hk); (try clear hi)) | ((with_reducible refine gate_dst (N := 22) rfl ?_); refine Kd.R_lit (Kd.int .i64) _ 2 ?hg (N := 22) ?hd (xs := ([0, 0, 1, t805] : List Int)) (inner := [.int .i64 0, .int .i64 0, .int .i64 1, .int .i64 t805]) (ok := fun _ => True) (okp := fun _ => True) ?hr ?hp (fun _ hk => hk) trivial (Below.refl _ _) (Nat.le_refl _) (by simp) ?_; (case hd => rfl); (case hg => rfl); (case hr => exact ZqT); (case hp => exact (Reps.one (show Kd.M (Kd.int .i64) _ _ _ 0 [.int .i64 0] from rfl) (Reps.one (show Kd.M (Kd.int .i64) _ _ _ 0 [.int .i64 0] from rfl) (Reps.one (show Kd.M (Kd.int .i64) _ _ _ 1 [.int .i64 1] from rfl) (Reps.one (show Kd.M (Kd.int .i64) _ _ _ t805 [.int .i64 t805] from rfl) (Reps.none _ _)))))); intro v809 w43 ho44 hb hg_ hnew_; clear hg_ hnew_; (first | rw [← Ny808.out] at ho44 | (simp only [Int.reduceToNat] at ho44; rw [← Ny808.out] at ho44)); have n0_ := Aside0.mk (Kd.R_elder' (ZR HO801) (Kd.R_base ho44) hb); have n1_ := Aside0.mk (Kd.R_lower (Kd.R_new' ho44 (Kd.R_lt (ZR HO801))) (keep_size (w := w) (g := g) (row := none) (by exact Zq5))); have n2_ := Aside0.mk (IsS176.below (by exact Zq3) hb); have n3_ := Aside0.mk (KeepBut.trans (by exact Zq5) (KeepBut.of_below hb g none) (.inl rfl)); have n4_ := Aside0.mk (below_step (by exact Zq4) hb); clear HO801 HI0 HK HB; have HO801 := n0_; have HO810 := n1_; have HI0 := n2_; have HK := n3_; have HB := n4_; clear n0_ n1_ n2_ n3_ n4_; clear hb ho44; obtain ⟨Ao45, co45, eo45⟩ := Kd.R_slice HO810.out; subst eo45) | ((with_reducible refine gate_callee (f := 136) rfl ?_); refine goesL_ (some 23) rfl rfl Try.func136 (by kernel_rfl) rfl #[.pointer (some ⟨g, 0, none⟩), .slice Ao45 y808.length co45] rfl ZA ?_; (with_reducible refine (spec_l01Pick.calls g s0_0 t806 t807 _ _ y808 t811 t812 t813 w0 _ ?side1 ?side2 ?side3 ?side4 ?side5 A7.out).mono ?_); (case side1 => exact Zq3); (case side2 => exact Zq4); (case side3 => exact ZqC ((Kd.R_reads' HO810.out).2.2)); (case side4 => exact (Kd.R_reads' HO810.out).2.1); (case side5 => exact far_slice (IsS176.own_ne HI0.out HO810.out (by decide))); rintro e w46 ⟨rfl, hi, hb, hk⟩; refine ⟨_, rfl, ?_⟩; have n0_ := Aside0.mk (Kd.R_mono (Kd.R_keep (IsS176.apart (show IsS176 w0 _ g s0_0 t806 t807 from by exact Zq3) (ZR HO801) (by decide)) hk (fun _ h => h.2)) (fun _ h => h.1)); have n1_ := Aside0.mk (Kd.R_mono (Kd.R_keep (IsS176.apart (show IsS176 w0 _ g s0_0 t806 t807 from by exact Zq3) (ZR HO810) (by decide)) hk (fun _ h => h.2)) (fun _ h => h.1)); have n2_ := Aside0.mk (KeepBut.trans (by exact Zq5) hk (.inl rfl)); have n3_ := Aside0.mk (hb); have n4_ := Aside0.mk (hi); clear HO801 HO810 HK HB HI0; have HO801 := n0_; have HO810 := n1_; have HK := n2_; have HB := n3_; have HI0 := n4_; clear n0_ n1_ n2_ n3_ n4_; (try clear hb); (try clear hk); (try clear hi)) | ((with_reducible refine gate_callee (f := 122) rfl ?_); refine goesL_ (some 25) rfl rfl Try.func122 (by kernel_rfl) rfl #[.pointer (some ⟨g, 0, none⟩), .int .i64 30] rfl ZA ?_; (with_reducible refine (spec_l01Next.calls g s0_0 t812 t813 30 t814 t815 t816 w0 _ ?side1 ?side2 A8.out).mono ?_); (case side1 => exact Zq3); (case side2 => exact Zq4); rintro e w47 ⟨rfl, hi, hb, hk⟩; refine ⟨_, rfl, ?_⟩; have n0_ := Aside0.mk (Kd.R_mono (Kd.R_keep (IsS176.apart (show IsS176 w0 _ g s0_0 t812 t813 from by exact Zq3) (ZR HO801) (by decide)) hk (fun _ h => h.2)) (fun _ h => h.1)); have n1_ := Aside0.mk (Kd.R_mono (Kd.R_keep (IsS176.apart (show IsS176 w0 _ g s0_0 t812 t813 from by exact Zq3) (ZR HO810) (by decide)) hk (fun _ h => h.2)) (fun _ h => h.1)); have n2_ := Aside0.mk (KeepBut.trans (by exact Zq5) hk (.inl rfl)); have n3_ := Aside0.mk (hb); have n4_ := Aside0.mk (hi); clear HO801 HO810 HK HB HI0; have HO801 := n0_; have HO810 := n1_; have HK := n2_; have HB := n3_; have HI0 := n4_; clear n0_ n1_ n2_ n3_ n4_; (try clear hb); (try clear hk); (try clear hi)) | ((with_reducible refine gate_callee (f := 144) rfl ?_); refine goesL_ (some 35) rfl rfl Try.func144 (by kernel_rfl) rfl #[.pointer (some ⟨g, 0, none⟩), .int .i64 24] rfl ZA ?_; (with_reducible refine (spec_l01Near.calls g s0_0 t815 t816 24 t832 t833 t834 w0 _ ?side1 ?side2 A34.out).mono ?_); (case side1 => exact Zq3); (case side2 => exact Zq4); rintro e w48 ⟨rfl, hi, hb, hk⟩; refine ⟨_, rfl, ?_⟩; have n0_ := Aside0.mk (Kd.R_mono (Kd.R_keep (IsS176.apart (show IsS176 w0 _ g s0_0 t815 t816 from by exact Zq3) (ZR HO801) (by decide)) hk (fun _ h => h.2)) (fun _ h => h.1)); have n1_ := Aside0.mk (Kd.R_mono (Kd.R_keep (IsS176.apart (show IsS176 w0 _ g s0_0 t815 t816 from by exact Zq3) (ZR HO810) (by decide)) hk (fun _ h => h.2)) (fun _ h => h.1)); have n2_ := Aside0.mk (KeepBut.trans (by exact Zq5) hk (.inl rfl)); have n3_ := Aside0.mk (hb); have n4_ := Aside0.mk (hi); clear HO801 HO810 HK HB HI0; have HO801 := n0_; have HO810 := n1_; have HK := n2_; have HB := n3_; have HI0 := n4_; clear n0_ n1_ n2_ n3_ n4_; (try clear hb); (try clear hk); (try clear hi)) | ((with_reducible refine gate_dst (N := 36) rfl ?_); refine Kd.R_lit (Kd.int .i64) _ 2 ?hg (N := 36) ?hd (xs := ([1, 2, 3, 24, t832] : List Int)) (inner := [.int .i64 1, .int .i64 2, .int .i64 3, .int .i64 24, .int .i64 t832]) (ok := fun _ => True) (okp := fun _ => True) ?hr ?hp (fun _ hk => hk) trivial (Below.refl _ _) (Nat.le_refl _) (by simp) ?_; (case hd => rfl); (case hg => rfl); (case hr => exact ZqT); (case hp => exact (Reps.one (show Kd.M (Kd.int .i64) _ _ _ 1 [.int .i64 1] from rfl) (Reps.one (show Kd.M (Kd.int .i64) _ _ _ 2 [.int .i64 2] from rfl) (Reps.one (show Kd.M (Kd.int .i64) _ _ _ 3 [.int .i64 3] from rfl) (Reps.one (show Kd.M (Kd.int .i64) _ _ _ 24 [.int .i64 24] from rfl) (Reps.one (show Kd.M (Kd.int .i64) _ _ _ t832 [.int .i64 t832] from rfl) (Reps.none _ _))))))); intro v836 w49 ho50 hb hg_ hnew_; clear hg_ hnew_; (first | rw [← Ny835.out] at ho50 | (simp only [Int.reduceToNat] at ho50; rw [← Ny835.out] at ho50)); have n0_ := Aside0.mk (Kd.R_elder' (ZR HO801) (Kd.R_base ho50) hb); have n1_ := Aside0.mk (Kd.R_elder' (ZR HO810) (Kd.R_base ho50) hb); have n2_ := Aside0.mk (Kd.R_lower (Kd.R_new' (Kd.R_new' ho50 (Kd.R_lt (ZR HO801))) (Kd.R_lt (ZR HO810))) (keep_size (w := w) (g := g) (row := none) (by exact Zq5))); have n3_ := Aside0.mk (IsS176.below (by exact Zq3) hb); have n4_ := Aside0.mk (KeepBut.trans (by exact Zq5) (KeepBut.of_below hb g none) (.inl rfl)); have n5_ := Aside0.mk (below_step (by exact Zq4) hb); clear HO801 HO810 HI0 HK HB; have HO801 := n0_; have HO810 := n1_; have HO837 := n2_; have HI0 := n3_; have HK := n4_; have HB := n5_; clear n0_ n1_ n2_ n3_ n4_ n5_; clear hb ho50; obtain ⟨Ao51, co51, eo51⟩ := Kd.R_slice HO837.out; subst eo51) | ((with_reducible refine gate_callee (f := 136) rfl ?_); refine goesL_ (some 37) rfl rfl Try.func136 (by kernel_rfl) rfl #[.pointer (some ⟨g, 0, none⟩), .slice Ao51 y835.length co51] rfl ZA ?_; (with_reducible refine (spec_l01Pick.calls g s0_0 t833 t834 _ _ y835 t838 t839 t840 w0 _ ?side1 ?side2 ?side3 ?side4 ?side5 A35.out).mono ?_); (case side1 => exact Zq3); (case side2 => exact Zq4); (case side3 => exact ZqC ((Kd.R_reads' HO837.out).2.2)); (case side4 => exact (Kd.R_reads' HO837.out).2.1); (case side5 => exact far_slice (IsS176.own_ne HI0.out HO837.out (by decide))); rintro e w52 ⟨rfl, hi, hb, hk⟩; refine ⟨_, rfl, ?_⟩; have n0_ := Aside0.mk (Kd.R_mono (Kd.R_keep (IsS176.apart (show IsS176 w0 _ g s0_0 t833 t834 from by exact Zq3) (ZR HO801) (by decide)) hk (fun _ h => h.2)) (fun _ h => h.1)); have n1_ := Aside0.mk (Kd.R_mono (Kd.R_keep (IsS176.apart (show IsS176 w0 _ g s0_0 t833 t834 from by exact Zq3) (ZR HO810) (by decide)) hk (fun _ h => h.2)) (fun _ h => h.1)); have n2_ := Aside0.mk (Kd.R_mono (Kd.R_keep (IsS176.apart (show IsS176 w0 _ g s0_0 t833 t834 from by exact Zq3) (ZR HO837) (by decide)) hk (fun _ h => h.2)) (fun _ h => h.1)); have n3_ := Aside0.mk (KeepBut.trans (by exact Zq5) hk (.inl rfl)); have n4_ := Aside0.mk (hb); have n5_ := Aside0.mk (hi); clear HO801 HO810 HO837 HK HB HI0; have HO801 := n0_; have HO810 := n1_; have HO837 := n2_; have HK := n3_; have HB := n4_; have HI0 := n5_; clear n0_ n1_ n2_ n3_ n4_ n5_; (try clear hb); (try clear hk); (try clear hi)))
  refine bodyPost_ret (results_list (rs := [.tmp 4, .tmp 5, .tmp 6, .tmp 7]) rfl (by simp) (.tmp (.tmp (.tmp (.tmp .nil))))) rfl ?_
  exact ⟨ZqR, by exact Zq3, by exact Zq4, by exact Zq5⟩

/-! ### spec_DrawPathsOf: function 25 -/
def spec_DrawPathsOf.f (k : Nat) (l0 : List Int) : Option (Int × Int × Int × Int) := (spec_l01From.f k l0).bind fun bt841 => ((spec_l01Pick.f bt841.1 bt841.2.1 bt841.2.2 (([4, 6, 8] : List Int))).bind fun bt848 => ((spec_l09Numbers.f bt841.1 bt848.2.1 bt848.2.2 bt848.1).bind fun bt851 => (some (bt851.1, bt851.2.1, bt851.2.2.1, bt851.2.2.2.1))))
theorem spec_DrawPathsOf.mono : ∀ a0 k, LeO (spec_DrawPathsOf.f k a0) (spec_DrawPathsOf.f (k + 1) a0) := by
 intro a0 k
 unfold spec_DrawPathsOf.f
 repeat' first
   | (with_reducible exact spec_l01From.mono _ _)
   | (with_reducible exact LeO.refl _)
   | (with_reducible exact LeO.none _)
   | (with_reducible refine LeO.ite ?_ ?_)
   | (with_reducible refine LeO.bind ?_ (fun _ => ?_))
   | exact spec_l01From.mono _ _
   | exact LeO.none _
   | refine LeO.ite ?_ ?_
   | refine LeO.bind ?_ (fun _ => ?_)
set_option maxHeartbeats 8000000 in
set_option maxRecDepth 100000 in
theorem spec_DrawPathsOf.calls (k : Nat) (A0 : Option Addr) (c0 : Nat) (l0 : List Int) (r1 : Int) (r2 : Int) (r3 : Int) (r4 : Int) (w : World) (hr0 : Kd.C (Kd.int .u8) w A0 l0.length l0) (hc0 : l0.length ≤ c0) (h : spec_DrawPathsOf.f k l0 = some (r1, r2, r3, r4)) :
  Calls Try.prog 25 #[.slice A0 l0.length c0] w fun e w' => e = .returned (.tuple #[.int .i64 r1, .int .i64 r2, .int .i64 r3, .int .i64 r4]) ∧ Below w.heap.size w w' := by
 have HR0 := Aside0.mk hr0
 have HC0 := Aside0.mk hc0
 clear hr0 hc0
 have HB := Aside0.mk (Below.refl w.heap.size w)
 have H : ((spec_l01From.f k l0).bind fun bt841 => ((spec_l01Pick.f bt841.1 bt841.2.1 bt841.2.2 (([4, 6, 8] : List Int))).bind fun bt848 => ((spec_l09Numbers.f bt841.1 bt848.2.1 bt848.2.2 bt848.1).bind fun bt851 => (some (bt851.1, bt851.2.1, bt851.2.2.1, bt851.2.2.2.1))))) = some (r1, r2, r3, r4) := h
 clear h
 replace H := Option.bind_eq_some_iff.mp H
 obtain ⟨⟨t841, t842, t843⟩, A20, H⟩ := H
 try dsimp only at H
 have A2 := Aside0.mk A20
 clear A20
 obtain ⟨y845, hy845⟩ : ∃ y_ : List Int, y_ = (([4, 6, 8] : List Int)) := ⟨_, rfl⟩
 replace H : ((spec_l01Pick.f t841 t842 t843 y845).bind fun bt848 => ((spec_l09Numbers.f t841 bt848.2.1 bt848.2.2 bt848.1).bind fun bt851 => (some (bt851.1, bt851.2.1, bt851.2.2.1, bt851.2.2.2.1)))) = some (r1, r2, r3, r4) := by have hq_ := hy845; exact ZqH
 have Ny845 := Aside0.mk hy845
 clear hy845
 replace H := Option.bind_eq_some_iff.mp H
 obtain ⟨⟨t848, t849, t850⟩, A30, H⟩ := H
 try dsimp only at H
 have A3 := Aside0.mk A30
 clear A30
 replace H := Option.bind_eq_some_iff.mp H
 obtain ⟨⟨t851, t852, t853, t854, t855, t856⟩, A40, H⟩ := H
 try dsimp only at H
 have A4 := Aside0.mk A40
 clear A40
 simp only [Option.some.injEq, Prod.mk.injEq] at H
 obtain ⟨rfl, rfl, rfl, rfl⟩ := H
 go_enter Try.func25, Try.ntmps25
 go_wp2_with (first | ((with_reducible refine gate_callee (f := 121) rfl ?_); refine goesL_ (some 12) rfl rfl Try.func121 (by kernel_rfl) rfl #[.slice A0 l0.length c0] rfl ZA ?_; (with_reducible refine (spec_l01From.calls k _ _ l0 t841 t842 t843 w _ ?side1 ?side2 ?side3 A2.out).mono ?_); (case side1 => exact Zq31); (case side2 => exact HR0.out); (case side3 => exact HC0.out); rintro e w5 ⟨g844, rfl, hi, hb, hb2⟩; refine ⟨_, rfl, ?_⟩; have n0_ := Aside0.mk (hb); have n1_ := Aside0.mk (hi); clear HB; have HB := n0_; have HI844 := n1_; clear n0_ n1_; (try clear hb); (try clear hb2); (try clear hi)) | ((with_reducible refine gate_dst (N := 16) rfl ?_); refine Kd.R_lit (Kd.int .i64) _ 2 ?hg (N := 16) ?hd (xs := ([4, 6, 8] : List Int)) (inner := [.int .i64 4, .int .i64 6, .int .i64 8]) (ok := fun _ => True) (okp := fun _ => True) ?hr ?hp (fun _ hk => hk) trivial (Below.refl _ _) (Nat.le_refl _) (by simp) ?_; (case hd => rfl); (case hg => rfl); (case hr => exact ZqT); (case hp => exact (Reps.one (show Kd.M (Kd.int .i64) _ _ _ 4 [.int .i64 4] from rfl) (Reps.one (show Kd.M (Kd.int .i64) _ _ _ 6 [.int .i64 6] from rfl) (Reps.one (show Kd.M (Kd.int .i64) _ _ _ 8 [.int .i64 8] from rfl) (Reps.none _ _))))); intro v846 w6 ho7 hb hg_ hnew_; clear hg_ hnew_; (first | rw [← Ny845.out] at ho7 | (simp only [Int.reduceToNat] at ho7; rw [← Ny845.out] at ho7)); have n0_ := Aside0.mk (Kd.R_lower ho7 (below_size (by exact Zq32))); have n1_ := Aside0.mk (IsS176.below (by exact Zq33) hb); have n2_ := Aside0.mk (below_step (by exact Zq32) hb); clear HI844 HB; have HO847 := n0_; have HI844 := n1_; have HB := n2_; clear n0_ n1_ n2_; clear hb ho7; obtain ⟨Ao8, co8, eo8⟩ := Kd.R_slice HO847.out; subst eo8) | ((with_reducible refine gate_callee (f := 136) rfl ?_); refine goesL_ (some 17) rfl rfl Try.func136 (by kernel_rfl) rfl #[.pointer (some ⟨g844, 0, none⟩), .slice Ao8 y845.length co8] rfl ZA ?_; (with_reducible refine (spec_l01Pick.calls g844 t841 t842 t843 _ _ y845 t848 t849 t850 w _ ?side1 ?side2 ?side3 ?side4 ?side5 A3.out).mono ?_); (case side1 => exact Zq33); (case side2 => exact Zq32); (case side3 => exact ZqC ((Kd.R_reads' HO847.out).2.2)); (case side4 => exact (Kd.R_reads' HO847.out).2.1); (case side5 => exact far_slice (IsS176.own_ne HI844.out HO847.out (by decide))); rintro e w9 ⟨rfl, hi, hb, hk⟩; refine ⟨_, rfl, ?_⟩; have n0_ := Aside0.mk (Kd.R_mono (Kd.R_keep (IsS176.apart (show IsS176 w _ g844 t841 t842 t843 from by exact Zq33) (ZR HO847) (by decide)) hk (fun _ h => h.2)) (fun _ h => h.1)); have n1_ := Aside0.mk (hb); have n2_ := Aside0.mk (hi); clear HO847 HB HI844; have HO847 := n0_; have HB := n1_; have HI844 := n2_; clear n0_ n1_ n2_; (try clear hb); (try clear hk); (try clear hi)) | ((with_reducible refine gate_callee (f := 135) rfl ?_); refine goesL_ (some 18) rfl rfl Try.func135 (by kernel_rfl) rfl #[.pointer (some ⟨g844, 0, none⟩), .int .i64 t848] rfl ZA ?_; (with_reducible refine (spec_l09Numbers.calls g844 t841 t849 t850 t848 t851 t852 t853 t854 t855 t856 w _ ?side1 ?side2 A4.out).mono ?_); (case side1 => exact Zq33); (case side2 => exact Zq32); rintro e w10 ⟨rfl, hi, hb, hk⟩; refine ⟨_, rfl, ?_⟩; have n0_ := Aside0.mk (Kd.R_mono (Kd.R_keep (IsS176.apart (show IsS176 w _ g844 t841 t849 t850 from by exact Zq33) (ZR HO847) (by decide)) hk (fun _ h => h.2)) (fun _ h => h.1)); have n1_ := Aside0.mk (hb); have n2_ := Aside0.mk (hi); clear HO847 HB HI844; have HO847 := n0_; have HB := n1_; have HI844 := n2_; clear n0_ n1_ n2_; (try clear hb); (try clear hk); (try clear hi)))
 refine bodyPost_ret (results_list (rs := [.tmp 2, .tmp 3, .tmp 4, .tmp 5]) rfl (by simp) (.tmp (.tmp (.tmp (.tmp .nil))))) rfl ?_
 exact ⟨ZqR, by exact Zq32⟩

/-! ### impl_isLength: function 159 -/
def impl_isLength.f (a0 : Int) : Option (Bool) := (impl_within.f a0 0 24).bind fun t857 => (some t857)
set_option maxHeartbeats 8000000 in
set_option maxRecDepth 100000 in
theorem impl_isLength.calls (a0 : Int) (r : Bool) (w : World) (h : impl_isLength.f a0 = some r) :
  Calls Try.prog 159 #[.int .i64 a0] w fun e w' => e = .returned (.bool r) ∧ Drawn0 w w' := by
 have H : ((impl_within.f a0 0 24).bind fun t857 => (some t857)) = some r := h
 clear h
 replace H := Option.bind_eq_some_iff.mp H
 obtain ⟨t857, A20, H⟩ := H
 try dsimp only at H
 have A2 := Aside0.mk A20
 clear A20
 obtain rfl := Option.some.inj H
 go_enter Try.func159, Try.ntmps159
 go_wp2_with (first | ((with_reducible refine gate_callee (f := 123) rfl ?_); refine goesL_ (some 4) rfl rfl Try.func123 (by kernel_rfl) rfl #[.int .i64 a0, .int .i64 0, .int .i64 24] rfl ZA ?_; (with_reducible refine (impl_within.calls a0 0 24 t857 _ A2.out).mono ?_); rintro e w' ⟨rfl, ⟨nd, rfl⟩⟩; refine ⟨_, rfl, ?_⟩))
 go_ret
 exact ⟨ZqS, by repeat (first | exact Drawn0.refl _ | apply Drawn0.step)⟩

def impl_areAll_int64_by_impl_isLength.f (l0 : List Int)  : Option Bool := allO (fun x_ => impl_isLength.f  x_) l0
theorem impl_areAll_int64_by_impl_isLength.calls (A0 : Option Addr) (c0 : Nat) (l0 : List Int)  (r : Bool) (w : World) (hr0 : Kd.C (Kd.int .i64) w A0 l0.length l0) (hc0 : l0.length ≤ c0) (h : impl_areAll_int64_by_impl_isLength.f l0  = some r) :
    Calls Try.prog 222 #[.slice A0 l0.length c0, .func (.func 159) #[] #[]] w fun e w' => e = .returned (.bool r) ∧ Below w.heap.size w w' :=
  hand_areAll A0 c0 l0 159 #[] #[] (fun x_ => impl_isLength.f  x_) r w (hand_enters Try.func159 (by kernel_rfl) rfl) hr0 (fun x b w' _ hf => (impl_isLength.calls  x b w' hf).mono fun e w'' h_ => ⟨h_.1, h_.2.below⟩) h

/-! ### impl_areCounted: function 137 -/
def impl_areCounted.f (l0 : List Int) : Option (Bool) := (impl_areAll_int64_by_impl_isLength.f l0).bind fun t858 => (some t858)
set_option maxHeartbeats 8000000 in
set_option maxRecDepth 100000 in
theorem impl_areCounted.calls (A0 : Option Addr) (c0 : Nat) (l0 : List Int) (r : Bool) (w : World) (hr0 : Kd.C (Kd.int .i64) w A0 l0.length l0) (hc0 : l0.length ≤ c0) (h : impl_areCounted.f l0 = some r) :
  Calls Try.prog 137 #[.slice A0 l0.length c0] w fun e w' => e = .returned (.bool r) ∧ Below w.heap.size w w' := by
 have HR0 := Aside0.mk hr0
 have HC0 := Aside0.mk hc0
 clear hr0 hc0
 have HB := Aside0.mk (Below.refl w.heap.size w)
 have H : ((impl_areAll_int64_by_impl_isLength.f l0).bind fun t858 => (some t858)) = some r := h
 clear h
 replace H := Option.bind_eq_some_iff.mp H
 obtain ⟨t858, A20, H⟩ := H
 try dsimp only at H
 have A2 := Aside0.mk A20
 clear A20
 obtain rfl := Option.some.inj H
 go_enter Try.func137, Try.ntmps137
 go_wp2_with (first | ((with_reducible refine gate_callee (f := 222) rfl ?_); refine goesL_ (some 4) rfl rfl Try.func222 (by kernel_rfl) rfl #[.slice A0 l0.length c0, .func (.func 159) #[] #[]] rfl ZA ?_; (with_reducible refine (impl_areAll_int64_by_impl_isLength.calls _ _ l0  t858 _ ?side1 ?side2 A2.out).mono ?_); (case side1 => exact ZqC (HR0.out)); (case side2 => exact HC0.out); rintro e w3 ⟨rfl, hb⟩; refine ⟨_, rfl, ?_⟩; have n0_ := Aside0.mk (below_step ZB hb); clear HB; have HB := n0_; clear n0_; (try clear hb)))
 go_ret
 exact ⟨ZqR, ZB⟩

/-! ### impl_countPaths: function 138 -/
mutual
def impl_countPaths.j0 : Nat → Int → Int → Int → Int → Bool → Bool → Option (Int)
 | 0, _, _, _, _, _, _ => none
 | k + 1, x0, x1, x2, x3, x4, x22 => if x22 = true then (some 0) else (if 0 ≤ (wrap64 (x3 + 1)) then (if (wrap64 (x3 + 1) : Int).toNat ≤ 35184372088832 then ((some (List.replicate (wrap64 (x3 + 1) : Int).toNat 0 : List Int)).bind fun y859 => (if 0 ≤ x1 then (if x1 < (y859.length : Int) then (impl_countPaths.l0 k x2 x3 x4 (y859.set (x1 : Int).toNat 1) x0 0) else (none)) else (none))) else (none)) else (none))
def impl_countPaths.l0 : Nat → Int → Int → Bool → List Int → Int → Int → Option (Int)
 | 0, _, _, _, _, _, _ => none
 | k + 1, x2, x3, x4, x11, x29, x30 => if x30 < x29 then (if 0 ≤ (wrap64 (x3 + 1)) then (if (wrap64 (x3 + 1) : Int).toNat ≤ 35184372088832 then (impl_countPaths.l1 k x2 x3 x4 (List.replicate (wrap64 (x3 + 1) : Int).toNat 0) x29 x30 x11 (x11.length : Int) 0) else (none)) else (none)) else (if 0 ≤ x2 then (if x2 < (x11.length : Int) then (some (rd x11 x2)) else (none)) else (none))
def impl_countPaths.l1 : Nat → Int → Int → Bool → List Int → Int → Int → List Int → Int → Int → Option (Int)
 | 0, _, _, _, _, _, _, _, _, _ => none
 | k + 1, x2, x3, x4, x12, x29, x30, x35, x36, x37 => if x37 < x36 then (if 0 ≤ x37 then (if x37 < (x35.length : Int) then (if x4 = true then (if x37 < (x12.length : Int) then (impl_countPaths.j3 k x2 x3 x4 (x12.set (x37 : Int).toNat (wrap64 ((rd x12 x37) + (rd x35 x37)))) x37 (rd x35 x37) x29 x30 x35 x36 x37) else (none)) else (impl_countPaths.j3 k x2 x3 x4 x12 x37 (rd x35 x37) x29 x30 x35 x36 x37)) else (none)) else (none)) else (impl_countPaths.l0 k x2 x3 x4 x12 x29 (wrap64 (x30 + 1)))
def impl_countPaths.j3 : Nat → Int → Int → Bool → List Int → Int → Int → Int → Int → List Int → Int → Int → Option (Int)
 | 0, _, _, _, _, _, _, _, _, _, _, _ => none
 | k + 1, x2, x3, x4, x12, x13, x14, x29, x30, x35, x36, x37 => if x13 > 0 then (if 0 ≤ (wrap64 (x13 - 1)) then (if (wrap64 (x13 - 1)) < (x12.length : Int) then ((some (x12.set ((wrap64 (x13 - 1)) : Int).toNat (wrap64 ((rd x12 (wrap64 (x13 - 1))) + x14)) : List Int)).bind fun y871 => (if x13 < x3 then (if 0 ≤ (wrap64 (x13 + 1)) then (if (wrap64 (x13 + 1)) < (x12.length : Int) then (impl_countPaths.l1 k x2 x3 x4 (y871.set ((wrap64 (x13 + 1)) : Int).toNat (wrap64 ((rd y871 (wrap64 (x13 + 1))) + x14))) x29 x30 x35 x36 (wrap64 (x37 + 1))) else (none)) else (none)) else (impl_countPaths.l1 k x2 x3 x4 y871 x29 x30 x35 x36 (wrap64 (x37 + 1))))) else (none)) else (none)) else (if x13 < x3 then (if 0 ≤ (wrap64 (x13 + 1)) then (if (wrap64 (x13 + 1)) < (x12.length : Int) then (impl_countPaths.l1 k x2 x3 x4 (x12.set ((wrap64 (x13 + 1)) : Int).toNat (wrap64 ((rd x12 (wrap64 (x13 + 1))) + x14))) x29 x30 x35 x36 (wrap64 (x37 + 1))) else (none)) else (none)) else (impl_countPaths.l1 k x2 x3 x4 x12 x29 x30 x35 x36 (wrap64 (x37 + 1))))
end
def impl_countPaths.f (k : Nat) (a0 : Int) (a1 : Int) (a2 : Int) (a3 : Int) (a4 : Bool) : Option (Int) := if a1 > a3 then (impl_countPaths.j0 k a0 a1 a2 a3 a4 true) else (impl_countPaths.j0 k a0 a1 a2 a3 a4 (decide (a2 > a3)))
theorem impl_countPaths.mono_l : ∀ k, (∀ y0 y1 y2 y3 y4 y5, LeO (impl_countPaths.j0 k y0 y1 y2 y3 y4 y5) (impl_countPaths.j0 (k + 1) y0 y1 y2 y3 y4 y5)) ∧ (∀ y0 y1 y2 y3 y4 y5, LeO (impl_countPaths.l0 k y0 y1 y2 y3 y4 y5) (impl_countPaths.l0 (k + 1) y0 y1 y2 y3 y4 y5)) ∧ (∀ y0 y1 y2 y3 y4 y5 y6 y7 y8, LeO (impl_countPaths.l1 k y0 y1 y2 y3 y4 y5 y6 y7 y8) (impl_countPaths.l1 (k + 1) y0 y1 y2 y3 y4 y5 y6 y7 y8)) ∧ (∀ y0 y1 y2 y3 y4 y5 y6 y7 y8 y9 y10, LeO (impl_countPaths.j3 k y0 y1 y2 y3 y4 y5 y6 y7 y8 y9 y10) (impl_countPaths.j3 (k + 1) y0 y1 y2 y3 y4 y5 y6 y7 y8 y9 y10))
 | 0 => ⟨fun _ _ _ _ _ _ r h => by simp [impl_countPaths.j0] at h, fun _ _ _ _ _ _ r h => by simp [impl_countPaths.l0] at h, fun _ _ _ _ _ _ _ _ _ r h => by simp [impl_countPaths.l1] at h, fun _ _ _ _ _ _ _ _ _ _ _ r h => by simp [impl_countPaths.j3] at h⟩
 | k + 1 => by
  obtain ⟨ih0, ih1, ih2, ih3⟩ := impl_countPaths.mono_l k
  refine ⟨?_, ?_, ?_, ?_⟩
  ·intro y0 y1 y2 y3 y4 y5
   unfold impl_countPaths.j0
   repeat' first
   | (with_reducible exact ih0 _ _ _ _ _ _)
   | (with_reducible exact ih1 _ _ _ _ _ _)
   | (with_reducible exact ih2 _ _ _ _ _ _ _ _ _)
   | (with_reducible exact ih3 _ _ _ _ _ _ _ _ _ _ _)
   | (with_reducible exact LeO.refl _)
   | (with_reducible exact LeO.none _)
   | (with_reducible refine LeO.ite ?_ ?_)
   | (with_reducible refine LeO.bind ?_ (fun _ => ?_))
   | exact ih0 _ _ _ _ _ _
   | exact ih1 _ _ _ _ _ _
   | exact ih2 _ _ _ _ _ _ _ _ _
   | exact ih3 _ _ _ _ _ _ _ _ _ _ _
   | exact LeO.none _
   | refine LeO.ite ?_ ?_
   | refine LeO.bind ?_ (fun _ => ?_)
  ·intro y0 y1 y2 y3 y4 y5
   unfold impl_countPaths.l0
   repeat' first
   | (with_reducible exact ih0 _ _ _ _ _ _)
   | (with_reducible exact ih1 _ _ _ _ _ _)
   | (with_reducible exact ih2 _ _ _ _ _ _ _ _ _)
   | (with_reducible exact ih3 _ _ _ _ _ _ _ _ _ _ _)
   | (with_reducible exact LeO.refl _)
   | (with_reducible exact LeO.none _)
   | (with_reducible refine LeO.ite ?_ ?_)
   | (with_reducible refine LeO.bind ?_ (fun _ => ?_))
   | exact ih0 _ _ _ _ _ _
   | exact ih1 _ _ _ _ _ _
   | exact ih2 _ _ _ _ _ _ _ _ _
   | exact ih3 _ _ _ _ _ _ _ _ _ _ _
   | exact LeO.none _
   | refine LeO.ite ?_ ?_
   | refine LeO.bind ?_ (fun _ => ?_)
  ·intro y0 y1 y2 y3 y4 y5 y6 y7 y8
   unfold impl_countPaths.l1
   repeat' first
   | (with_reducible exact ih0 _ _ _ _ _ _)
   | (with_reducible exact ih1 _ _ _ _ _ _)
   | (with_reducible exact ih2 _ _ _ _ _ _ _ _ _)
   | (with_reducible exact ih3 _ _ _ _ _ _ _ _ _ _ _)
   | (with_reducible exact LeO.refl _)
   | (with_reducible exact LeO.none _)
   | (with_reducible refine LeO.ite ?_ ?_)
   | (with_reducible refine LeO.bind ?_ (fun _ => ?_))
   | exact ih0 _ _ _ _ _ _
   | exact ih1 _ _ _ _ _ _
   | exact ih2 _ _ _ _ _ _ _ _ _
   | exact ih3 _ _ _ _ _ _ _ _ _ _ _
   | exact LeO.none _
   | refine LeO.ite ?_ ?_
   | refine LeO.bind ?_ (fun _ => ?_)
  ·intro y0 y1 y2 y3 y4 y5 y6 y7 y8 y9 y10
   unfold impl_countPaths.j3
   repeat' first
   | (with_reducible exact ih0 _ _ _ _ _ _)
   | (with_reducible exact ih1 _ _ _ _ _ _)
   | (with_reducible exact ih2 _ _ _ _ _ _ _ _ _)
   | (with_reducible exact ih3 _ _ _ _ _ _ _ _ _ _ _)
   | (with_reducible exact LeO.refl _)
   | (with_reducible exact LeO.none _)
   | (with_reducible refine LeO.ite ?_ ?_)
   | (with_reducible refine LeO.bind ?_ (fun _ => ?_))
   | exact ih0 _ _ _ _ _ _
   | exact ih1 _ _ _ _ _ _
   | exact ih2 _ _ _ _ _ _ _ _ _
   | exact ih3 _ _ _ _ _ _ _ _ _ _ _
   | exact LeO.none _
   | refine LeO.ite ?_ ?_
   | refine LeO.bind ?_ (fun _ => ?_)
theorem impl_countPaths.mono : ∀ a0 a1 a2 a3 a4 k, LeO (impl_countPaths.f k a0 a1 a2 a3 a4) (impl_countPaths.f (k + 1) a0 a1 a2 a3 a4) := by
 intro a0 a1 a2 a3 a4 k
 obtain ⟨ih0, ih1, ih2, ih3⟩ := impl_countPaths.mono_l k
 unfold impl_countPaths.f
 repeat' first
   | (with_reducible exact ih0 _ _ _ _ _ _)
   | (with_reducible exact ih1 _ _ _ _ _ _)
   | (with_reducible exact ih2 _ _ _ _ _ _ _ _ _)
   | (with_reducible exact ih3 _ _ _ _ _ _ _ _ _ _ _)
   | (with_reducible exact LeO.refl _)
   | (with_reducible exact LeO.none _)
   | (with_reducible refine LeO.ite ?_ ?_)
   | (with_reducible refine LeO.bind ?_ (fun _ => ?_))
   | exact ih0 _ _ _ _ _ _
   | exact ih1 _ _ _ _ _ _
   | exact ih2 _ _ _ _ _ _ _ _ _
   | exact ih3 _ _ _ _ _ _ _ _ _ _ _
   | exact LeO.none _
   | refine LeO.ite ?_ ?_
   | refine LeO.bind ?_ (fun _ => ?_)
set_option maxHeartbeats 8000000 in
set_option maxRecDepth 100000 in
theorem impl_countPaths.calls (k : Nat) (a0 : Int) (a1 : Int) (a2 : Int) (a3 : Int) (a4 : Bool) (r : Int) (w : World) (h : impl_countPaths.f k a0 a1 a2 a3 a4 = some r) :
  Calls Try.prog 138 #[.int .i64 a0, .int .i64 a1, .int .i64 a2, .int .i64 a3, .bool a4] w fun e w' => e = .returned (.int .i64 r) ∧ Below w.heap.size w w' := by
 have HB := Aside0.mk (Below.refl w.heap.size w)
 have H : (if a1 > a3 then (impl_countPaths.j0 k a0 a1 a2 a3 a4 true) else (impl_countPaths.j0 k a0 a1 a2 a3 a4 (decide (a2 > a3)))) = some r := h
 clear h
 have HC6 := Aside0.mk H
 clear H
 go_enter Try.func138, Try.ntmps138
 go_upto_region 1 with (fail)
 go_cut [22] (fun v22 wc => ∃ (kq : Nat) (x22_5 : Bool), v22 = .bool x22_5 ∧ Aside0 (impl_countPaths.j0 kq a0 a1 a2 a3 a4 x22_5 = some r) ∧ Aside0 (kq ≤ k) ∧ Aside0 (Below w.heap.size w wc))
 case first =>
  have H := HC6.out
  clear HC6
  by_cases c7 : a1 > a3
  ·rw [if_pos c7] at H
   have c7b0 : decide (a3 < a1) = true := decide_eq_true c7
   clear c7
   (first | rw [c7b0] | (simp only [i64_w, i32_w]; rw [c7b0]) | skip)
   have H' := Aside0.mk H
   clear H
   go_wp2
   go_meet
   case rel => exact ⟨_, (true), (ZqS), H', ⟨by first | omega | exact Nat.le_refl _⟩, ⟨ZB⟩⟩
  ·rw [if_neg c7] at H
   have c7b0 : decide (a3 < a1) = false := decide_eq_false c7
   clear c7
   (first | rw [c7b0] | (simp only [i64_w, i32_w]; rw [c7b0]) | skip)
   have H' := Aside0.mk H
   clear H
   go_wp2
   go_meet
   case rel => exact ⟨_, (decide (a2 > a3)), (ZqS), H', ⟨by first | omega | exact Nat.le_refl _⟩, ⟨ZB⟩⟩
 case rest =>
  clear HC6
  try clear c1
  try clear p2
  try clear c7
  try clear c7b0
  obtain ⟨kq, x22_5, rfl, HA, HJ5, HB⟩ := hcut
  cases kq with
  | zero => exact absurd HA.out (by simp [impl_countPaths.j0])
  | succ kj5 =>
   have H := HA.out
   clear HA
   simp only [impl_countPaths.j0] at H
   by_cases c8 : x22_5 = true
   ·subst c8
    rw [if_pos rfl] at H
    obtain rfl := Option.some.inj H
    go_wp2
    go_ret
    exact ⟨ZqR, ZB⟩
   ·replace c8 := Bool.eq_false_iff.mpr c8
    subst c8
    rw [if_neg (show ¬ (false = true) by decide)] at H
    obtain ⟨ji9, hji9⟩ : ∃ j_ : Int, (wrap64 (a3 + 1)) = j_ := ⟨_, rfl⟩
    replace H : (if 0 ≤ (ji9) then (if (ji9 : Int).toNat ≤ 35184372088832 then ((some (List.replicate (ji9 : Int).toNat 0 : List Int)).bind fun y859 => (if 0 ≤ a1 then (if a1 < (y859.length : Int) then (impl_countPaths.l0 kj5 a2 a3 a4 (y859.set (a1 : Int).toNat 1) a0 0) else (none)) else (none))) else (none)) else (none)) = some r := by first | (rw [hji9] at H; exact H) | (simp only [hji9] at H ⊢; exact H)
    have hji9w : (IntKind.i64.wrap (a3 + 1)) = ji9 := (i64_w _).trans hji9
    by_cases c10 : 0 ≤ (ji9)
    ·rw [if_pos c10] at H
     have c10b0 := eq_true c10
     have c10b1 : decide (0 ≤ (ji9)) = true := decide_eq_true c10
     clear c10
     by_cases c11 : (ji9 : Int).toNat ≤ 35184372088832
     ·rw [if_pos c11] at H
      have c11b0 := eq_true c11
      have c11b1 : decide ((ji9 : Int).toNat ≤ 35184372088832) = true := decide_eq_true c11
      clear c11
      obtain ⟨y859, hy859⟩ : ∃ y_ : List Int, y_ = (List.replicate (ji9 : Int).toNat 0) := ⟨_, rfl⟩
      replace H : (if 0 ≤ a1 then (if a1 < (y859.length : Int) then (impl_countPaths.l0 kj5 a2 a3 a4 (y859.set (a1 : Int).toNat 1) a0 0) else (none)) else (none)) = some r := by have hq_ := hy859; exact ZqH
      have Ny859 := Aside0.mk hy859
      clear hy859
      by_cases c12 : 0 ≤ a1
      ·rw [if_pos c12] at H
       have c12b0 : decide (0 ≤ a1) = true := decide_eq_true c12
       clear c12
       by_cases c13 : a1 < (y859.length : Int)
       ·rw [if_pos c13] at H
        have c13b0 : decide (a1 < (y859.length : Int)) = true := decide_eq_true c13
        clear c13
        obtain ⟨y862, hy862⟩ : ∃ y_ : List Int, y_ = (y859.set (a1 : Int).toNat 1) := ⟨_, rfl⟩
        replace H : (impl_countPaths.l0 kj5 a2 a3 a4 y862 a0 0) = some r := by have hq_ := hy862; exact ZqH
        have Ny862 := Aside0.mk hy862
        clear hy862
        have H' := Aside0.mk H
        clear H
        go_wp2_with (first | ((with_reducible refine gate_dst (N := 25) rfl ?_); refine Kd.R_make (Kd.int .i64) _ 2 rfl (N := 25) rfl 24 _ _ rfl ji9 rfl rfl Try.underlying24 (.int .i64 0) 8 info2 rfl (by decide) (by omega) 0 (ok := fun _ => True) (okp := fun _ => True) rfl (fun _ hk => hk) trivial (of_decide_eq_true (by first | (with_reducible assumption) | assumption)) (Nat.le_trans (Nat.mul_le_mul_right _ (of_decide_eq_true (by first | (with_reducible assumption) | assumption) : ji9.toNat ≤ 35184372088832)) (by omega)) (Below.refl _ _) (Nat.le_refl _) ?_; intro v860 w15 ho16 hb hg_ hnew_; clear hg_ hnew_; (first | rw [← Ny859.out] at ho16 | (simp only [Int.reduceToNat] at ho16; rw [← Ny859.out] at ho16)); have n0_ := Aside0.mk (Kd.R_lower ho16 (below_size ZB)); have n1_ := Aside0.mk (below_step ZB hb); clear HB; have HO861 := n0_; have HB := n1_; clear n0_ n1_; clear hb ho16; have p14 : 0 ≤ (a1 : Int) := of_decide_eq_true (by first | (with_reducible assumption) | assumption); have q14 : (a1 : Int) < ((y859.length : Int) : Int) := of_decide_eq_true (by first | (with_reducible assumption) | assumption); obtain ⟨go14, co14, eo14, gb14, gl14, cl14, HG14⟩ := Kd.R_form HO861.out (by omega); (first | cases eo14 | (injection eo14 with ea_ en_ ec_; (first | subst ea_ | (injection ea_ with ea_; subst ea_)); subst ec_; clear en_)); have GB14 := Aside0.mk gb14; have GG14 := Aside0.mk HG14; clear gb14 gl14 HG14; obtain ⟨hx14_0, hf14_0⟩ := Kd.R_celln 0 HO861.out (a1 : Int) p14 q14; replace p14 := eq_true p14; replace q14 := eq_true q14; obtain ⟨hy17_, hz17_⟩ := Kd.R_celln 0 HO861.out (a1 : Int) (of_decide_eq_true (by first | (with_reducible assumption) | assumption)) (of_decide_eq_true (by first | (with_reducible assumption) | assumption)); have HP17 := Kd.R_putg HO861.out (a1 : Int) 1) | ((with_reducible refine gate_store (t := 2) (p := 28) rfl ?_); refine store_event (t := 2) (p := 28) (v := ?vo_w18) (w1 := (w15.setCell ⟨go14, (a1 : Int).toNat, none⟩ (.int .i64 1))) ?hg ?ho ?hn ?hr ?_; (case ho => rfl); (case hg => rfl); (case hn => rfl); (case hr => exact ZqT); intro w18 hw; have hg : w15.grownBy w18 (some go14) := (by rw [hw]; exact HP17.2); have hp_ : Kd.R (Kd.int .i64) 2 w18 w.heap.size (fun _ => True) (.slice (some ⟨go14, 0, none⟩) y859.length co14) y862 := (by rw [hw, Ny862.out]; exact HP17.1); clear HP17; have n0_ := Aside0.mk (hp_); have n1_ := Aside0.mk ((by rw [hw]; exact below_set (HB.out) GB14.out : Below w.heap.size w w18)); clear HO861 HB; have HO861 := n0_; have HB := n1_; clear n0_ n1_; clear hg hw hp_))
        go_loopg [11, 30] kj5 (fun kq v11 v30 w' => ∃ (x11_2 : List Int) (x30_2 : Int), v30 = .int .i64 x30_2 ∧ Aside0 (impl_countPaths.l0 kq a2 a3 a4 x11_2 a0 x30_2 = some r) ∧ Aside0 (kq ≤ kj5) ∧ Aside0 (Kd.R (Kd.int .i64) 2 w' w.heap.size (fun _ => True) v11 x11_2) ∧ Aside0 (Below w.heap.size w w'))
        case atStart => exact ⟨(y862), (0), (ZqS), H', ⟨Nat.le_refl _⟩, ⟨ZR HO861⟩, ⟨ZB⟩⟩
        case round =>
         clear H'
         try clear c1
         try clear p1
         try clear q1
         try clear hx1
         try clear p2
         try clear p6
         try clear c7
         try clear c7b0
         try clear c8
         try clear c10
         try clear c10b0
         try clear c10b1
         try clear c11
         try clear c11b0
         try clear c11b1
         try clear c12
         try clear c12b0
         try clear c13
         try clear c13b0
         try clear p14
         try clear q14
         try clear hx14
         try clear hf14
         try clear hx14_0
         try clear p14
         try clear p2
         try clear q14
         obtain ⟨x11_2, x30_2, rfl, HA, HK2, HO_11, HB⟩ := hrel
         cases gk with
         | zero => exact absurd HA.out (by simp [impl_countPaths.l0])
         | succ k2 =>
          have H := HA.out
          clear HA
          simp only [impl_countPaths.l0] at H
          by_cases c19 : x30_2 < a0
          ·rw [if_pos c19] at H
           have c19b0 : decide (x30_2 < a0) = true := decide_eq_true c19
           clear c19
           obtain ⟨ji20, hji20⟩ : ∃ j_ : Int, (wrap64 (a3 + 1)) = j_ := ⟨_, rfl⟩
           replace H : (if 0 ≤ (ji20) then (if (ji20 : Int).toNat ≤ 35184372088832 then (impl_countPaths.l1 k2 a2 a3 a4 (List.replicate (ji20 : Int).toNat 0) a0 x30_2 x11_2 (x11_2.length : Int) 0) else (none)) else (none)) = some r := by first | (rw [hji20] at H; exact H) | (simp only [hji20] at H ⊢; exact H)
           have hji20w : (IntKind.i64.wrap (a3 + 1)) = ji20 := (i64_w _).trans hji20
           try clear hji9
           try clear hji9w
           by_cases c21 : 0 ≤ (ji20)
           ·rw [if_pos c21] at H
            have c21b0 := eq_true c21
            have c21b1 : decide (0 ≤ (ji20)) = true := decide_eq_true c21
            clear c21
            by_cases c22 : (ji20 : Int).toNat ≤ 35184372088832
            ·rw [if_pos c22] at H
             have c22b0 := eq_true c22
             have c22b1 : decide ((ji20 : Int).toNat ≤ 35184372088832) = true := decide_eq_true c22
             clear c22
             obtain ⟨y864, hy864⟩ : ∃ y_ : List Int, y_ = (List.replicate (ji20 : Int).toNat 0) := ⟨_, rfl⟩
             replace H : (impl_countPaths.l1 k2 a2 a3 a4 y864 a0 x30_2 x11_2 (x11_2.length : Int) 0) = some r := by have hq_ := hy864; exact ZqH
             have Ny864 := Aside0.mk hy864
             clear hy864
             have H' := Aside0.mk H
             clear H
             go_wp2_with (first | ((with_reducible refine gate_dst (N := 34) rfl ?_); refine Kd.R_make (Kd.int .i64) _ 2 rfl (N := 34) rfl 24 _ _ rfl ji20 rfl rfl Try.underlying24 (.int .i64 0) 8 info2 rfl (by decide) (by omega) 0 (ok := fun _ => True) (okp := fun _ => True) rfl (fun _ hk => hk) trivial (of_decide_eq_true (by first | (with_reducible assumption) | assumption)) (Nat.le_trans (Nat.mul_le_mul_right _ (of_decide_eq_true (by first | (with_reducible assumption) | assumption) : ji20.toNat ≤ 35184372088832)) (by omega)) (Below.refl _ _) (Nat.le_refl _) ?_; intro v865 w23 ho24 hb hg_ hnew_; clear hg_ hnew_; (first | rw [← Ny864.out] at ho24 | (simp only [Int.reduceToNat] at ho24; rw [← Ny864.out] at ho24)); have n0_ := Aside0.mk (Kd.R_elder' (ZR HO_11) (Kd.R_base ho24) hb); have n1_ := Aside0.mk (Kd.R_lower (Kd.R_new' ho24 (Kd.R_lt (ZR HO_11))) (below_size ZB)); have n2_ := Aside0.mk (below_step ZB hb); clear HO_11 HB; have HO_11 := n0_; have HO866 := n1_; have HB := n2_; clear n0_ n1_ n2_; clear hb ho24; obtain ⟨Ao25, co25, eo25⟩ := Kd.R_slice HO_11.out; subst eo25))
             go_loopg [37] k2 (fun kq v37 w' => ∃ (x12_3 : List Int) (x37_3 : Int), v37 = .int .i64 x37_3 ∧ Aside0 (impl_countPaths.l1 kq a2 a3 a4 x12_3 a0 x30_2 x11_2 (x11_2.length : Int) x37_3 = some r) ∧ Aside0 (kq ≤ k2) ∧ Aside0 (Kd.R (Kd.int .i64) 2 w' w.heap.size (fun k_ => some k_ ≠ ((.slice Ao25 x11_2.length co25) : Value).ownBlock) v865 x12_3) ∧ Aside0 (Kd.R (Kd.int .i64) 2 w' w.heap.size (fun k_ => some k_ ≠ (v865 : Value).ownBlock) (.slice Ao25 x11_2.length co25) x11_2) ∧ Aside0 (Below w.heap.size w w'))
             case atStart => exact ⟨(y864), (0), (ZqS), H', ⟨Nat.le_refl _⟩, ⟨by refine ZQ ?_; exact Kd.R_mono HO866.out (fun _ hk => hk.2)⟩, ⟨by refine ZQ ?_; exact Kd.R_mono HO_11.out (fun _ hk => hk.2)⟩, ⟨ZB⟩⟩
             case round =>
              clear H'
              try clear c1
              try clear p1
              try clear q1
              try clear hx1
              try clear c2
              try clear p2
              try clear p6
              try clear c7
              try clear c7b0
              try clear c8
              try clear c10
              try clear c10b0
              try clear c10b1
              try clear c11
              try clear c11b0
              try clear c11b1
              try clear c12
              try clear c12b0
              try clear c13
              try clear c13b0
              try clear p14
              try clear q14
              try clear hx14
              try clear hf14
              try clear c19
              try clear c19b0
              try clear c21
              try clear c21b0
              try clear c21b1
              try clear c22
              try clear c22b0
              try clear c22b1
              try clear hx14_0
              try clear p1
              try clear p14
              try clear p2
              try clear p6
              try clear q1
              try clear q14
              obtain ⟨x12_3, x37_3, rfl, HA, HK3, HO_12, HO_35, HB⟩ := hrel
              cases gk with
              | zero => exact absurd HA.out (by simp [impl_countPaths.l1])
              | succ k3 =>
               have H := HA.out
               clear HA
               simp only [impl_countPaths.l1] at H
               by_cases c26 : x37_3 < (x11_2.length : Int)
               ·rw [if_pos c26] at H
                have c26b0 : decide (x37_3 < (x11_2.length : Int)) = true := decide_eq_true c26
                clear c26
                by_cases c27 : 0 ≤ x37_3
                ·rw [if_pos c27] at H
                 have c27b0 : decide (0 ≤ x37_3) = true := decide_eq_true c27
                 clear c27
                 by_cases c28 : x37_3 < (x11_2.length : Int)
                 ·rw [if_pos c28] at H
                  have c28b0 : decide (x37_3 < (x11_2.length : Int)) = true := decide_eq_true c28
                  clear c28
                  have HC29 := Aside0.mk H
                  clear H
                  have p867 : 0 ≤ (x37_3 : Int) := of_decide_eq_true (by first | (with_reducible assumption) | assumption)
                  have q867 : x37_3 < (x11_2.length : Int) := of_decide_eq_true (by first | (with_reducible assumption) | assumption)
                  obtain ⟨ad867, e867, hx867_0⟩ := Kd.at_int (Kd.R_reads' HO_35.out).2.2 x37_3 p867 q867
                  cases e867
                  replace p867 := eq_true p867
                  replace q867 := eq_true q867
                  go_upto_if 42 with (fail)
                  go_cut [] (fun wc => ∃ (kq : Nat) (x12_28 : List Int), Aside0 (impl_countPaths.j3 kq a2 a3 a4 x12_28 x37_3 (rd x11_2 x37_3) a0 x30_2 x11_2 (x11_2.length : Int) x37_3 = some r) ∧ Aside0 (kq ≤ k3) ∧ Aside0 (Kd.R (Kd.int .i64) 2 wc w.heap.size (fun k_ => some k_ ≠ ((.slice (some ad867) x11_2.length co25) : Value).ownBlock) v865 x12_28) ∧ Aside0 (Kd.R (Kd.int .i64) 2 wc w.heap.size (fun k_ => some k_ ≠ (v865 : Value).ownBlock) (.slice (some ad867) x11_2.length co25) x11_2) ∧ Aside0 (Below w.heap.size w wc))
                  case first =>
                   have H := HC29.out
                   clear HC29
                   by_cases c30 : a4 = true
                   ·subst c30
                    rw [if_pos rfl] at H
                    by_cases c31 : x37_3 < (x12_3.length : Int)
                    ·rw [if_pos c31] at H
                     have c31b0 : decide (x37_3 < (x12_3.length : Int)) = true := decide_eq_true c31
                     clear c31
                     (first | rw [c31b0] | (simp only [i64_w, i32_w]; rw [c31b0]) | skip)
                     obtain ⟨y869, hy869⟩ : ∃ y_ : List Int, y_ = (x12_3.set (x37_3 : Int).toNat (wrap64 ((rd x12_3 x37_3) + (rd x11_2 x37_3)))) := ⟨_, rfl⟩
                     replace H : (impl_countPaths.j3 k3 a2 a3 true y869 x37_3 (rd x11_2 x37_3) a0 x30_2 x11_2 (x11_2.length : Int) x37_3) = some r := by have hq_ := hy869; exact ZqH
                     have Ny869 := Aside0.mk hy869
                     clear hy869
                     have H' := Aside0.mk H
                     clear H
                     obtain ⟨Ao33, co33, eo33⟩ := Kd.R_slice HO_12.out
                     subst eo33
                     have p868 : 0 ≤ (x37_3 : Int) := of_decide_eq_true (by first | (with_reducible assumption) | assumption)
                     have q868 : x37_3 < (x12_3.length : Int) := of_decide_eq_true (by first | (with_reducible assumption) | assumption)
                     obtain ⟨ad868, e868, hx868_0⟩ := Kd.at_int (Kd.R_reads' HO_12.out).2.2 x37_3 p868 q868
                     cases e868
                     replace p868 := eq_true p868
                     replace q868 := eq_true q868
                     have p32 : 0 ≤ (x37_3 : Int) := of_decide_eq_true (by first | (with_reducible assumption) | assumption)
                     have q32 : (x37_3 : Int) < ((x12_3.length : Int) : Int) := of_decide_eq_true (by first | (with_reducible assumption) | assumption)
                     obtain ⟨go32, co32, eo32, gb32, gl32, cl32, HG32⟩ := Kd.R_form HO_12.out (by omega)
                     (first | cases eo32 | (injection eo32 with ea_ en_ ec_; (first | subst ea_ | (injection ea_ with ea_; subst ea_)); subst ec_; clear en_))
                     have GB32 := Aside0.mk gb32
                     have GG32 := Aside0.mk HG32
                     clear gb32 gl32 HG32
                     (first | simp only [add_plain] at hx868_0 | skip)
                     obtain ⟨hx32_0, hf32_0⟩ := Kd.R_celln 0 HO_12.out (x37_3 : Int) p32 q32
                     replace p32 := eq_true p32
                     replace q32 := eq_true q32
                     have HP34 := Kd.R_putg HO_12.out (x37_3 : Int) (wrap64 ((rd x12_3 x37_3) + (rd x11_2 x37_3)))
                     go_wp2_with (first | ((with_reducible refine gate_store (t := 2) (p := 49) rfl ?_); refine store_event (t := 2) (p := 49) (v := ?vo_w35) (w1 := (wr.setCell ⟨go32, (x37_3 : Int).toNat, none⟩ (.int .i64 (wrap64 ((rd x12_3 x37_3) + (rd x11_2 x37_3)))))) ?hg ?ho ?hn ?hr ?_; (case ho => rfl); (case hg => rfl); (case hn => rfl); (case hr => exact ZqT); intro w35 hw; have hg : wr.grownBy w35 (some go32) := (by rw [hw]; exact HP34.2); have hp_ : Kd.R (Kd.int .i64) 2 w35 w.heap.size (fun k_ => some k_ ≠ (.slice (some ad867) x11_2.length co25 : Value).ownBlock) (.slice (some ⟨go32, 0, none⟩) x12_3.length co33) y869 := (by rw [hw, Ny869.out]; exact HP34.1); clear HP34; have n0_ := Aside0.mk (hp_); have n1_ := Aside0.mk (Kd.R_after (v := (.slice (some ⟨go32, 0, none⟩) x12_3.length co33)) (v1 := (.slice (some ⟨go32, 0, none⟩) x12_3.length co33)) (ok := (fun _ => True)) (by refine ZQ ?_; exact Kd.R_mono HO_35.out (fun _ hk => (And.intro (trivial) (hk)))) hg (.inl rfl)); have n2_ := Aside0.mk ((by rw [hw]; exact below_set (HB.out) GB32.out : Below w.heap.size w w35)); clear HO_12 HO_35 HB; have HO_12 := n0_; have HO_35 := n1_; have HB := n2_; clear n0_ n1_ n2_; clear hg hw hp_))
                     go_meet
                     case rel => exact ⟨_, (y869), H', ⟨by have := HJ5.out; have := HK2.out; have := HK3.out; first | omega | exact Nat.le_refl _⟩, ⟨ZR HO_12⟩, ⟨by refine ZQ ?_; exact Kd.R_mono HO_35.out (fun _ hk => hk.2)⟩, ⟨ZB⟩⟩
                    ·rw [if_neg c31] at H
                     exact absurd H (by simp)
                   ·replace c30 := Bool.eq_false_iff.mpr c30
                    subst c30
                    rw [if_neg (show ¬ (false = true) by decide)] at H
                    have H' := Aside0.mk H
                    clear H
                    go_wp2
                    go_meet
                    case rel => exact ⟨_, (x12_3), H', ⟨by have := HJ5.out; have := HK2.out; have := HK3.out; first | omega | exact Nat.le_refl _⟩, ⟨ZR HO_12⟩, ⟨ZR HO_35⟩, ⟨ZB⟩⟩
                  case rest =>
                   clear HC29
                   try clear c1
                   try clear p1
                   try clear q1
                   try clear hx1
                   try clear c2
                   try clear p2
                   try clear c3
                   try clear p3
                   try clear q3
                   try clear hx3
                   try clear p6
                   try clear c7
                   try clear c7b0
                   try clear c8
                   try clear p8
                   try clear q8
                   try clear hx8
                   try clear c10
                   try clear c10b0
                   try clear c10b1
                   try clear c11
                   try clear c11b0
                   try clear c11b1
                   try clear c12
                   try clear c12b0
                   try clear c13
                   try clear c13b0
                   try clear p14
                   try clear q14
                   try clear hx14
                   try clear hf14
                   try clear c19
                   try clear c19b0
                   try clear c21
                   try clear c21b0
                   try clear c21b1
                   try clear c22
                   try clear c22b0
                   try clear c22b1
                   try clear c26
                   try clear c26b0
                   try clear c27
                   try clear c27b0
                   try clear c28
                   try clear c28b0
                   try clear c30
                   try clear c31
                   try clear c31b0
                   try clear p32
                   try clear q32
                   try clear hx32
                   try clear hf32
                   try clear hx14_0
                   try clear hx32_0
                   try clear hx867_0
                   try clear hx868_0
                   try clear p1
                   try clear p14
                   try clear p2
                   try clear p32
                   try clear p6
                   try clear p867
                   try clear p868
                   try clear q1
                   try clear q14
                   try clear q32
                   try clear q867
                   try clear q868
                   obtain ⟨kq, x12_28, HA, HJ28, HO_12, HO_35, HB⟩ := hcut
                   cases kq with
                   | zero => exact absurd HA.out (by simp [impl_countPaths.j3])
                   | succ kj28 =>
                    have H := HA.out
                    clear HA
                    simp only [impl_countPaths.j3] at H
                    by_cases c36 : x37_3 > 0
                    ·rw [if_pos c36] at H
                     have c36b0 : decide (0 < x37_3) = true := decide_eq_true c36
                     clear c36
                     obtain ⟨ji37, hji37⟩ : ∃ j_ : Int, (wrap64 (x37_3 - 1)) = j_ := ⟨_, rfl⟩
                     replace H : (if 0 ≤ (ji37) then (if (ji37) < (x12_28.length : Int) then ((some (x12_28.set ((ji37) : Int).toNat (wrap64 ((rd x12_28 (ji37)) + (rd x11_2 x37_3))) : List Int)).bind fun y871 => (if x37_3 < a3 then (if 0 ≤ (wrap64 (x37_3 + 1)) then (if (wrap64 (x37_3 + 1)) < (x12_28.length : Int) then (impl_countPaths.l1 kj28 a2 a3 a4 (y871.set ((wrap64 (x37_3 + 1)) : Int).toNat (wrap64 ((rd y871 (wrap64 (x37_3 + 1))) + (rd x11_2 x37_3)))) a0 x30_2 x11_2 (x11_2.length : Int) (wrap64 (x37_3 + 1))) else (none)) else (none)) else (impl_countPaths.l1 kj28 a2 a3 a4 y871 a0 x30_2 x11_2 (x11_2.length : Int) (wrap64 (x37_3 + 1))))) else (none)) else (none)) = some r := by first | (rw [hji37] at H; exact H) | (simp only [hji37] at H ⊢; exact H)
                     have hji37w : (IntKind.i64.wrap (x37_3 - 1)) = ji37 := (i64_w _).trans hji37
                     by_cases c38 : 0 ≤ (ji37)
                     ·rw [if_pos c38] at H
                      have c38b0 : decide (0 ≤ (ji37)) = true := decide_eq_true c38
                      clear c38
                      by_cases c39 : (ji37) < (x12_28.length : Int)
                      ·rw [if_pos c39] at H
                       have c39b0 : decide ((ji37) < (x12_28.length : Int)) = true := decide_eq_true c39
                       clear c39
                       obtain ⟨y871, hy871⟩ : ∃ y_ : List Int, y_ = (x12_28.set ((ji37) : Int).toNat (wrap64 ((rd x12_28 (ji37)) + (rd x11_2 x37_3)))) := ⟨_, rfl⟩
                       replace H : (if x37_3 < a3 then (if 0 ≤ (wrap64 (x37_3 + 1)) then (if (wrap64 (x37_3 + 1)) < (x12_28.length : Int) then (impl_countPaths.l1 kj28 a2 a3 a4 (y871.set ((wrap64 (x37_3 + 1)) : Int).toNat (wrap64 ((rd y871 (wrap64 (x37_3 + 1))) + (rd x11_2 x37_3)))) a0 x30_2 x11_2 (x11_2.length : Int) (wrap64 (x37_3 + 1))) else (none)) else (none)) else (impl_countPaths.l1 kj28 a2 a3 a4 y871 a0 x30_2 x11_2 (x11_2.length : Int) (wrap64 (x37_3 + 1)))) = some r := by have hq_ := hy871; exact ZqH
                       have Ny871 := Aside0.mk hy871
                       clear hy871
                       by_cases c41 : x37_3 < a3
                       ·rw [if_pos c41] at H
                        have c41b0 : decide (x37_3 < a3) = true := decide_eq_true c41
                        clear c41
                        obtain ⟨ji42, hji42⟩ : ∃ j_ : Int, (wrap64 (x37_3 + 1)) = j_ := ⟨_, rfl⟩
                        replace H : (if 0 ≤ (ji42) then (if (ji42) < (x12_28.length : Int) then (impl_countPaths.l1 kj28 a2 a3 a4 (y871.set ((ji42) : Int).toNat (wrap64 ((rd y871 (ji42)) + (rd x11_2 x37_3)))) a0 x30_2 x11_2 (x11_2.length : Int) ji42) else (none)) else (none)) = some r := by first | (rw [hji42] at H; exact H) | (simp only [hji42] at H ⊢; exact H)
                        have hji42w : (IntKind.i64.wrap (x37_3 + 1)) = ji42 := (i64_w _).trans hji42
                        by_cases c43 : 0 ≤ (ji42)
                        ·rw [if_pos c43] at H
                         have c43b0 : decide (0 ≤ (ji42)) = true := decide_eq_true c43
                         clear c43
                         by_cases c44 : (ji42) < (x12_28.length : Int)
                         ·rw [if_pos c44] at H
                          have c44b0 : decide ((ji42) < (x12_28.length : Int)) = true := decide_eq_true c44
                          clear c44
                          obtain ⟨y873, hy873⟩ : ∃ y_ : List Int, y_ = (y871.set ((ji42) : Int).toNat (wrap64 ((rd y871 (ji42)) + (rd x11_2 x37_3)))) := ⟨_, rfl⟩
                          replace H : (impl_countPaths.l1 kj28 a2 a3 a4 y873 a0 x30_2 x11_2 (x11_2.length : Int) ji42) = some r := by have hq_ := hy873; exact ZqH
                          have Ny873 := Aside0.mk hy873
                          clear hy873
                          have H' := Aside0.mk H
                          clear H
                          obtain ⟨Ao46, co46, eo46⟩ := Kd.R_slice HO_12.out
                          subst eo46
                          have p870 : 0 ≤ ((ji37) : Int) := of_decide_eq_true (by first | (with_reducible assumption) | assumption)
                          have q870 : (ji37) < (x12_28.length : Int) := of_decide_eq_true (by first | (with_reducible assumption) | assumption)
                          obtain ⟨ad870, e870, hx870_0⟩ := Kd.at_int (Kd.R_reads' HO_12.out).2.2 (ji37) p870 q870
                          cases e870
                          replace p870 := eq_true p870
                          replace q870 := eq_true q870
                          have p40 : 0 ≤ ((ji37) : Int) := of_decide_eq_true (by first | (with_reducible assumption) | assumption)
                          have q40 : ((ji37) : Int) < ((x12_28.length : Int) : Int) := of_decide_eq_true (by first | (with_reducible assumption) | assumption)
                          obtain ⟨go40, co40, eo40, gb40, gl40, cl40, HG40⟩ := Kd.R_form HO_12.out (by omega)
                          (first | cases eo40 | (injection eo40 with ea_ en_ ec_; (first | subst ea_ | (injection ea_ with ea_; subst ea_)); subst ec_; clear en_))
                          have GB40 := Aside0.mk gb40
                          have GG40 := Aside0.mk HG40
                          clear gb40 gl40 HG40
                          (first | simp only [add_plain] at hx870_0 | skip)
                          obtain ⟨hx40_0, hf40_0⟩ := Kd.R_celln 0 HO_12.out ((ji37) : Int) p40 q40
                          replace p40 := eq_true p40
                          replace q40 := eq_true q40
                          have HP47 := Kd.R_putg HO_12.out ((ji37) : Int) (wrap64 ((rd x12_28 (ji37)) + (rd x11_2 x37_3)))
                          go_wp2_with (first | ((with_reducible refine gate_store (t := 2) (p := 59) rfl ?_); refine store_event (t := 2) (p := 59) (v := ?vo_w48) (w1 := (wc.setCell ⟨go40, ((ji37) : Int).toNat, none⟩ (.int .i64 (wrap64 ((rd x12_28 (ji37)) + (rd x11_2 x37_3)))))) ?hg ?ho ?hn ?hr ?_; (case ho => rfl); (case hg => rfl); (case hn => rfl); (case hr => exact ZqT); intro w48 hw; have hg : wc.grownBy w48 (some go40) := (by rw [hw]; exact HP47.2); have hp_ : Kd.R (Kd.int .i64) 2 w48 w.heap.size (fun k_ => some k_ ≠ (.slice (some ad867) x11_2.length co25 : Value).ownBlock) (.slice (some ⟨go40, 0, none⟩) x12_28.length co46) y871 := (by rw [hw, Ny871.out]; exact HP47.1); clear HP47; have n0_ := Aside0.mk (hp_); have n1_ := Aside0.mk (Kd.R_after (v := (.slice (some ⟨go40, 0, none⟩) x12_28.length co46)) (v1 := (.slice (some ⟨go40, 0, none⟩) x12_28.length co46)) (ok := (fun _ => True)) (by refine ZQ ?_; exact Kd.R_mono HO_35.out (fun _ hk => (And.intro (trivial) (hk)))) hg (.inl rfl)); have n2_ := Aside0.mk ((by rw [hw]; exact below_set (HB.out) GB40.out : Below w.heap.size w w48)); clear HO_12 HO_35 HB; have HO_12 := n0_; have HO_35 := n1_; have HB := n2_; clear n0_ n1_ n2_; clear hg hw hp_; have p872 : 0 ≤ ((ji42) : Int) := of_decide_eq_true (by first | (with_reducible assumption) | assumption); have q872 : (ji42) < (y871.length : Int) := (by have h_ : ((ji42) : Int) < ((x12_28.length : Int) : Int) := of_decide_eq_true (by first | (with_reducible assumption) | assumption); first | (have e_ := (Kd.R_reads' HO_12.out).1; omega) | simpa only [Ny871.out, List.length_set] using h_); have ql872 : (((ji42) : Int) < ((x12_28.length : Int) : Int)) = True := eq_true (of_decide_eq_true (by first | (with_reducible assumption) | assumption)); obtain ⟨ad872, e872, hx872_0⟩ := Kd.at_int (Kd.R_reads' HO_12.out).2.2 (ji42) p872 q872; obtain rfl : (⟨go40, 0, none⟩ : Addr) = ad872 := (by injection e872); (first | simp only [add_plain] at hx872_0 | simp only [add_at] at hx872_0 | simp only [Addr.add, Nat.zero_add] at hx872_0 | skip); replace p872 := eq_true p872; replace q872 := eq_true q872; have p45 : 0 ≤ ((ji42) : Int) := of_decide_eq_true (by first | (with_reducible assumption) | assumption); have q45 : ((ji42) : Int) < ((x12_28.length : Int) : Int) := of_decide_eq_true (by first | (with_reducible assumption) | assumption); obtain ⟨hx45_0, hf45_0⟩ := Kd.R_celln 0 HO_12.out ((ji42) : Int) p45 q45; replace p45 := eq_true p45; replace q45 := eq_true q45; obtain ⟨hy49_, hz49_⟩ := Kd.R_celln 0 HO_12.out ((ji42) : Int) (of_decide_eq_true (by first | (with_reducible assumption) | assumption)) (of_decide_eq_true (by first | (with_reducible assumption) | assumption)); have HP49 := Kd.R_putg HO_12.out ((ji42) : Int) (wrap64 ((rd y871 (ji42)) + (rd x11_2 x37_3)))) | ((with_reducible refine gate_store (t := 2) (p := 70) rfl ?_); refine store_event (t := 2) (p := 70) (v := ?vo_w50) (w1 := (w48.setCell ⟨go40, ((ji42) : Int).toNat, none⟩ (.int .i64 (wrap64 ((rd y871 (ji42)) + (rd x11_2 x37_3)))))) ?hg ?ho ?hn ?hr ?_; (case ho => rfl); (case hg => rfl); (case hn => rfl); (case hr => exact ZqT); intro w50 hw; have hg : w48.grownBy w50 (some go40) := (by rw [hw]; exact HP49.2); have hp_ : Kd.R (Kd.int .i64) 2 w50 w.heap.size (fun k_ => some k_ ≠ (.slice (some ad867) x11_2.length co25 : Value).ownBlock) (.slice (some ⟨go40, 0, none⟩) x12_28.length co46) y873 := (by rw [hw, Ny873.out]; exact HP49.1); clear HP49; have n0_ := Aside0.mk (hp_); have n1_ := Aside0.mk (Kd.R_after (v := (.slice (some ⟨go40, 0, none⟩) x12_28.length co46)) (v1 := (.slice (some ⟨go40, 0, none⟩) x12_28.length co46)) (ok := (fun _ => True)) (ZR HO_35) hg (.inl rfl)); have n2_ := Aside0.mk ((by rw [hw]; exact below_set (HB.out) GB40.out : Below w.heap.size w w50)); clear HO_12 HO_35 HB; have HO_12 := n0_; have HO_35 := n1_; have HB := n2_; clear n0_ n1_ n2_; clear hg hw hp_))
                          go_roundg kj28
                          case measure => have := HJ5.out; have := HK2.out; have := HK3.out; have := HJ28.out; omega
                          case rel => exact ⟨(y873), (ji42), (by first | rfl | (simp; done) | (simp only [← hji42] <;> (first | rfl | simp)) | (simp [*]; done)), H', ⟨by have := HJ5.out; have := HK2.out; have := HK3.out; have := HJ28.out; omega⟩, ⟨ZR HO_12⟩, ⟨by refine ZQ ?_; exact Kd.R_mono HO_35.out (fun _ hk => hk.2)⟩, ⟨ZB⟩⟩
                         ·rw [if_neg c44] at H
                          exact absurd H (by simp)
                        ·rw [if_neg c43] at H
                         exact absurd H (by simp)
                       ·rw [if_neg c41] at H
                        have c41b0 : decide (x37_3 < a3) = false := decide_eq_false c41
                        clear c41
                        have H' := Aside0.mk H
                        clear H
                        obtain ⟨Ao51, co51, eo51⟩ := Kd.R_slice HO_12.out
                        subst eo51
                        have p870 : 0 ≤ ((ji37) : Int) := of_decide_eq_true (by first | (with_reducible assumption) | assumption)
                        have q870 : (ji37) < (x12_28.length : Int) := of_decide_eq_true (by first | (with_reducible assumption) | assumption)
                        obtain ⟨ad870, e870, hx870_0⟩ := Kd.at_int (Kd.R_reads' HO_12.out).2.2 (ji37) p870 q870
                        cases e870
                        replace p870 := eq_true p870
                        replace q870 := eq_true q870
                        have p40 : 0 ≤ ((ji37) : Int) := of_decide_eq_true (by first | (with_reducible assumption) | assumption)
                        have q40 : ((ji37) : Int) < ((x12_28.length : Int) : Int) := of_decide_eq_true (by first | (with_reducible assumption) | assumption)
                        obtain ⟨go40, co40, eo40, gb40, gl40, cl40, HG40⟩ := Kd.R_form HO_12.out (by omega)
                        (first | cases eo40 | (injection eo40 with ea_ en_ ec_; (first | subst ea_ | (injection ea_ with ea_; subst ea_)); subst ec_; clear en_))
                        have GB40 := Aside0.mk gb40
                        have GG40 := Aside0.mk HG40
                        clear gb40 gl40 HG40
                        (first | simp only [add_plain] at hx870_0 | skip)
                        obtain ⟨hx40_0, hf40_0⟩ := Kd.R_celln 0 HO_12.out ((ji37) : Int) p40 q40
                        replace p40 := eq_true p40
                        replace q40 := eq_true q40
                        have HP52 := Kd.R_putg HO_12.out ((ji37) : Int) (wrap64 ((rd x12_28 (ji37)) + (rd x11_2 x37_3)))
                        go_wp2_with (first | ((with_reducible refine gate_store (t := 2) (p := 59) rfl ?_); refine store_event (t := 2) (p := 59) (v := ?vo_w53) (w1 := (wc.setCell ⟨go40, ((ji37) : Int).toNat, none⟩ (.int .i64 (wrap64 ((rd x12_28 (ji37)) + (rd x11_2 x37_3)))))) ?hg ?ho ?hn ?hr ?_; (case ho => rfl); (case hg => rfl); (case hn => rfl); (case hr => exact ZqT); intro w53 hw; have hg : wc.grownBy w53 (some go40) := (by rw [hw]; exact HP52.2); have hp_ : Kd.R (Kd.int .i64) 2 w53 w.heap.size (fun k_ => some k_ ≠ (.slice (some ad867) x11_2.length co25 : Value).ownBlock) (.slice (some ⟨go40, 0, none⟩) x12_28.length co51) y871 := (by rw [hw, Ny871.out]; exact HP52.1); clear HP52; have n0_ := Aside0.mk (hp_); have n1_ := Aside0.mk (Kd.R_after (v := (.slice (some ⟨go40, 0, none⟩) x12_28.length co51)) (v1 := (.slice (some ⟨go40, 0, none⟩) x12_28.length co51)) (ok := (fun _ => True)) (by refine ZQ ?_; exact Kd.R_mono HO_35.out (fun _ hk => (And.intro (trivial) (hk)))) hg (.inl rfl)); have n2_ := Aside0.mk ((by rw [hw]; exact below_set (HB.out) GB40.out : Below w.heap.size w w53)); clear HO_12 HO_35 HB; have HO_12 := n0_; have HO_35 := n1_; have HB := n2_; clear n0_ n1_ n2_; clear hg hw hp_))
                        go_roundg kj28
                        case measure => have := HJ5.out; have := HK2.out; have := HK3.out; have := HJ28.out; omega
                        case rel => exact ⟨(y871), (wrap64 (x37_3 + 1)), (ZqS), H', ⟨by have := HJ5.out; have := HK2.out; have := HK3.out; have := HJ28.out; omega⟩, ⟨ZR HO_12⟩, ⟨by refine ZQ ?_; exact Kd.R_mono HO_35.out (fun _ hk => hk.2)⟩, ⟨ZB⟩⟩
                      ·rw [if_neg c39] at H
                       exact absurd H (by simp)
                     ·rw [if_neg c38] at H
                      exact absurd H (by simp)
                    ·rw [if_neg c36] at H
                     have c36b0 : decide (0 < x37_3) = false := decide_eq_false c36
                     clear c36
                     by_cases c54 : x37_3 < a3
                     ·rw [if_pos c54] at H
                      have c54b0 : decide (x37_3 < a3) = true := decide_eq_true c54
                      clear c54
                      obtain ⟨ji55, hji55⟩ : ∃ j_ : Int, (wrap64 (x37_3 + 1)) = j_ := ⟨_, rfl⟩
                      replace H : (if 0 ≤ (ji55) then (if (ji55) < (x12_28.length : Int) then (impl_countPaths.l1 kj28 a2 a3 a4 (x12_28.set ((ji55) : Int).toNat (wrap64 ((rd x12_28 (ji55)) + (rd x11_2 x37_3)))) a0 x30_2 x11_2 (x11_2.length : Int) ji55) else (none)) else (none)) = some r := by first | (rw [hji55] at H; exact H) | (simp only [hji55] at H ⊢; exact H)
                      have hji55w : (IntKind.i64.wrap (x37_3 + 1)) = ji55 := (i64_w _).trans hji55
                      try clear hji42
                      try clear hji42w
                      by_cases c56 : 0 ≤ (ji55)
                      ·rw [if_pos c56] at H
                       have c56b0 : decide (0 ≤ (ji55)) = true := decide_eq_true c56
                       clear c56
                       by_cases c57 : (ji55) < (x12_28.length : Int)
                       ·rw [if_pos c57] at H
                        have c57b0 : decide ((ji55) < (x12_28.length : Int)) = true := decide_eq_true c57
                        clear c57
                        obtain ⟨y875, hy875⟩ : ∃ y_ : List Int, y_ = (x12_28.set ((ji55) : Int).toNat (wrap64 ((rd x12_28 (ji55)) + (rd x11_2 x37_3)))) := ⟨_, rfl⟩
                        replace H : (impl_countPaths.l1 kj28 a2 a3 a4 y875 a0 x30_2 x11_2 (x11_2.length : Int) ji55) = some r := by have hq_ := hy875; exact ZqH
                        have Ny875 := Aside0.mk hy875
                        clear hy875
                        have H' := Aside0.mk H
                        clear H
                        obtain ⟨Ao59, co59, eo59⟩ := Kd.R_slice HO_12.out
                        subst eo59
                        have p874 : 0 ≤ ((ji55) : Int) := of_decide_eq_true (by first | (with_reducible assumption) | assumption)
                        have q874 : (ji55) < (x12_28.length : Int) := of_decide_eq_true (by first | (with_reducible assumption) | assumption)
                        obtain ⟨ad874, e874, hx874_0⟩ := Kd.at_int (Kd.R_reads' HO_12.out).2.2 (ji55) p874 q874
                        cases e874
                        replace p874 := eq_true p874
                        replace q874 := eq_true q874
                        have p58 : 0 ≤ ((ji55) : Int) := of_decide_eq_true (by first | (with_reducible assumption) | assumption)
                        have q58 : ((ji55) : Int) < ((x12_28.length : Int) : Int) := of_decide_eq_true (by first | (with_reducible assumption) | assumption)
                        obtain ⟨go58, co58, eo58, gb58, gl58, cl58, HG58⟩ := Kd.R_form HO_12.out (by omega)
                        (first | cases eo58 | (injection eo58 with ea_ en_ ec_; (first | subst ea_ | (injection ea_ with ea_; subst ea_)); subst ec_; clear en_))
                        have GB58 := Aside0.mk gb58
                        have GG58 := Aside0.mk HG58
                        clear gb58 gl58 HG58
                        (first | simp only [add_plain] at hx874_0 | skip)
                        obtain ⟨hx58_0, hf58_0⟩ := Kd.R_celln 0 HO_12.out ((ji55) : Int) p58 q58
                        replace p58 := eq_true p58
                        replace q58 := eq_true q58
                        have HP60 := Kd.R_putg HO_12.out ((ji55) : Int) (wrap64 ((rd x12_28 (ji55)) + (rd x11_2 x37_3)))
                        go_wp2_with (first | ((with_reducible refine gate_store (t := 2) (p := 70) rfl ?_); refine store_event (t := 2) (p := 70) (v := ?vo_w61) (w1 := (wc.setCell ⟨go58, ((ji55) : Int).toNat, none⟩ (.int .i64 (wrap64 ((rd x12_28 (ji55)) + (rd x11_2 x37_3)))))) ?hg ?ho ?hn ?hr ?_; (case ho => rfl); (case hg => rfl); (case hn => rfl); (case hr => exact ZqT); intro w61 hw; have hg : wc.grownBy w61 (some go58) := (by rw [hw]; exact HP60.2); have hp_ : Kd.R (Kd.int .i64) 2 w61 w.heap.size (fun k_ => some k_ ≠ (.slice (some ad867) x11_2.length co25 : Value).ownBlock) (.slice (some ⟨go58, 0, none⟩) x12_28.length co59) y875 := (by rw [hw, Ny875.out]; exact HP60.1); clear HP60; have n0_ := Aside0.mk (hp_); have n1_ := Aside0.mk (Kd.R_after (v := (.slice (some ⟨go58, 0, none⟩) x12_28.length co59)) (v1 := (.slice (some ⟨go58, 0, none⟩) x12_28.length co59)) (ok := (fun _ => True)) (by refine ZQ ?_; exact Kd.R_mono HO_35.out (fun _ hk => (And.intro (trivial) (hk)))) hg (.inl rfl)); have n2_ := Aside0.mk ((by rw [hw]; exact below_set (HB.out) GB58.out : Below w.heap.size w w61)); clear HO_12 HO_35 HB; have HO_12 := n0_; have HO_35 := n1_; have HB := n2_; clear n0_ n1_ n2_; clear hg hw hp_))
                        go_roundg kj28
                        case measure => have := HJ5.out; have := HK2.out; have := HK3.out; have := HJ28.out; omega
                        case rel => exact ⟨(y875), (ji55), (by first | rfl | (simp; done) | (simp only [← hji55] <;> (first | rfl | simp)) | (simp [*]; done)), H', ⟨by have := HJ5.out; have := HK2.out; have := HK3.out; have := HJ28.out; omega⟩, ⟨ZR HO_12⟩, ⟨by refine ZQ ?_; exact Kd.R_mono HO_35.out (fun _ hk => hk.2)⟩, ⟨ZB⟩⟩
                       ·rw [if_neg c57] at H
                        exact absurd H (by simp)
                      ·rw [if_neg c56] at H
                       exact absurd H (by simp)
                     ·rw [if_neg c54] at H
                      have c54b0 : decide (x37_3 < a3) = false := decide_eq_false c54
                      clear c54
                      have H' := Aside0.mk H
                      clear H
                      go_wp2
                      go_roundg kj28
                      case measure => have := HJ5.out; have := HK2.out; have := HK3.out; have := HJ28.out; omega
                      case rel => exact ⟨(x12_28), (wrap64 (x37_3 + 1)), (ZqS), H', ⟨by have := HJ5.out; have := HK2.out; have := HK3.out; have := HJ28.out; omega⟩, ⟨ZR HO_12⟩, ⟨ZR HO_35⟩, ⟨ZB⟩⟩
                 ·rw [if_neg c28] at H
                  exact absurd H (by simp)
                ·rw [if_neg c27] at H
                 exact absurd H (by simp)
               ·rw [if_neg c26] at H
                have c26b0 : decide (x37_3 < (x11_2.length : Int)) = false := decide_eq_false c26
                clear c26
                have H' := Aside0.mk H
                clear H
                go_wp2
                go_roundg k3
                case measure => have := HJ5.out; have := HK2.out; have := HK3.out; omega
                case rel => exact ⟨(x12_3), (wrap64 (x30_2 + 1)), (ZqS), H', ⟨by have := HJ5.out; have := HK2.out; have := HK3.out; omega⟩, ⟨by refine ZQ ?_; exact Kd.R_mono HO_12.out (fun _ hk => trivial)⟩, ⟨ZB⟩⟩
            ·rw [if_neg c22] at H
             exact absurd H (by simp)
           ·rw [if_neg c21] at H
            exact absurd H (by simp)
          ·rw [if_neg c19] at H
           have c19b0 : decide (x30_2 < a0) = false := decide_eq_false c19
           clear c19
           by_cases c62 : 0 ≤ a2
           ·rw [if_pos c62] at H
            have c62b0 : decide (0 ≤ a2) = true := decide_eq_true c62
            clear c62
            by_cases c63 : a2 < (x11_2.length : Int)
            ·rw [if_pos c63] at H
             have c63b0 : decide (a2 < (x11_2.length : Int)) = true := decide_eq_true c63
             clear c63
             obtain rfl := Option.some.inj H
             obtain ⟨Ao64, co64, eo64⟩ := Kd.R_slice HO_11.out
             subst eo64
             have p863 : 0 ≤ (a2 : Int) := of_decide_eq_true (by first | (with_reducible assumption) | assumption)
             have q863 : a2 < (x11_2.length : Int) := of_decide_eq_true (by first | (with_reducible assumption) | assumption)
             obtain ⟨ad863, e863, hx863_0⟩ := Kd.at_int (Kd.R_reads' HO_11.out).2.2 a2 p863 q863
             cases e863
             replace p863 := eq_true p863
             replace q863 := eq_true q863
             go_wp2
             go_ret
             exact ⟨by first | rfl | (simp [errW_none, errW_some] <;> rfl) | (simp only [← hji9]; first | rfl | (simp [errW_none, errW_some] <;> rfl)) | (simp [*, errW_none, errW_some] <;> rfl), ZB⟩
            ·rw [if_neg c63] at H
             exact absurd H (by simp)
           ·rw [if_neg c62] at H
            exact absurd H (by simp)
       ·rw [if_neg c13] at H
        exact absurd H (by simp)
      ·rw [if_neg c12] at H
       exact absurd H (by simp)
     ·rw [if_neg c11] at H
      exact absurd H (by simp)
    ·rw [if_neg c10] at H
     exact absurd H (by simp)

end Go.Proofs.Ytlodpobegdbhaaa.X
