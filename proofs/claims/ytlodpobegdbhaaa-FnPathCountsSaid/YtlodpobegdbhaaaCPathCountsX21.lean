/- Contracts of functions that the law reaches, printed by a program of this session; Lean checks them. -/
import Derived.Test.YtlodpobegdbhaaaCPathCountsX0
import Derived.Test.YtlodpobegdbhaaaCPathCountsX1
import Derived.Test.YtlodpobegdbhaaaCPathCountsX12
import Derived.Test.YtlodpobegdbhaaaCPathCountsX4
import Derived.Test.YtlodpobegdbhaaaCPathCountsXZ
namespace Go.Proofs.Ytlodpobegdbhaaa.X
open Go.RowKit Go.Proofs.YtlodpobegdbhaaaW.PrintWords Go.Proofs.YtlodpobegdbhaaaW.PrintLast Go.Proofs.YtlodpobegdbhaaaW.PrintMore
attribute [local go_sem] max2_int min2_int max_two min_two max_three min_three max_four min_four   -- for this text's walks alone
set_option linter.unusedVariables false
set_option linter.unusedSimpArgs false

-- NOT PRINTED: function 235 (impl_areAll_int64_235)

-- NOT PRINTED: function 182 (impl_polyCode)

/-! ### spec_l01Near: function 144 -/
def spec_l01Near.f (s0_0 : List Int) (s0_1 : Int) (s0_2 : Int) (a1 : Int) : Option (Int × Int × Int) := (spec_l01Next.f s0_0 s0_1 s0_2 14).bind fun bt781 => (if bt781.1 = 0 then ((spec_l01Pick.f s0_0 bt781.2.1 bt781.2.2 (([(-1), wrap64 (a1 + 1), 1099511627776, (-4611686018427387904)] : List Int))).bind fun bt787 => (some (bt787.1, bt787.2.1, bt787.2.2))) else ((spec_l01Next.f s0_0 bt781.2.1 bt781.2.2 (wrap64 (a1 + 1))).bind fun bt790 => (some (bt790.1, bt790.2.1, bt790.2.2))))
set_option maxHeartbeats 8000000 in
set_option maxRecDepth 100000 in
theorem spec_l01Near.calls (g : Nat) (s0_0 : List Int) (s0_1 : Int) (s0_2 : Int) (a1 : Int) (r1 : Int) (r2 : Int) (r3 : Int) (w0 w : World) (hI : IsS176 w0 w g s0_0 s0_1 s0_2) (hB : Below w0.heap.size w0 w) (h : spec_l01Near.f s0_0 s0_1 s0_2 a1 = some (r1, r2, r3)) :
  Calls Try.prog 144 #[.pointer (some ⟨g, 0, none⟩), .int .i64 a1] w fun e w' => e = .returned (.int .i64 r1) ∧ IsS176 w0 w' g s0_0 r2 r3 ∧ Below w0.heap.size w0 w' ∧ KeepBut w w' g none := by
 have HI0 := Aside0.mk hI
 have HK := Aside0.mk (KeepBut.refl w g none)
 have HL := Aside0.mk hB.size
 clear hI
 have HW0 := Aside0.mk hB.size
 have HB := Aside0.mk hB
 clear hB
 have H : ((spec_l01Next.f s0_0 s0_1 s0_2 14).bind fun bt781 => (if bt781.1 = 0 then ((spec_l01Pick.f s0_0 bt781.2.1 bt781.2.2 (([(-1), wrap64 (a1 + 1), 1099511627776, (-4611686018427387904)] : List Int))).bind fun bt787 => (some (bt787.1, bt787.2.1, bt787.2.2))) else ((spec_l01Next.f s0_0 bt781.2.1 bt781.2.2 (wrap64 (a1 + 1))).bind fun bt790 => (some (bt790.1, bt790.2.1, bt790.2.2))))) = some (r1, r2, r3) := h
 clear h
 replace H := Option.bind_eq_some_iff.mp H
 obtain ⟨⟨t781, t782, t783⟩, A30, H⟩ := H
 try dsimp only at H
 have A3 := Aside0.mk A30
 clear A30
 by_cases c4 : t781 = 0
 ·rw [if_pos c4] at H
  have c4b0 : (t781 == 0) = true := beq_iff_eq.mpr c4
  have c4b1 : (t781 != 0) = false := bne_eq_false_iff_eq.mpr c4
  clear c4
  obtain ⟨y784, hy784⟩ : ∃ y_ : List Int, y_ = (([(-1), wrap64 (a1 + 1), 1099511627776, (-4611686018427387904)] : List Int)) := ⟨_, rfl⟩
  replace H : ((spec_l01Pick.f s0_0 t782 t783 y784).bind fun bt787 => (some (bt787.1, bt787.2.1, bt787.2.2))) = some (r1, r2, r3) := by have hq_ := hy784; exact ZqH
  have Ny784 := Aside0.mk hy784
  clear hy784
  replace H := Option.bind_eq_some_iff.mp H
  obtain ⟨⟨t787, t788, t789⟩, A50, H⟩ := H
  try dsimp only at H
  have A5 := Aside0.mk A50
  clear A50
  simp only [Option.some.injEq, Prod.mk.injEq] at H
  obtain ⟨rfl, rfl, rfl⟩ := H
  go_enter Try.func144, Try.ntmps144
  go_wp2_with (first | ((with_reducible refine gate_callee (f := 122) rfl ?_); refine goesL_ (some 6) rfl rfl Try.func122 (by kernel_rfl) rfl #[.pointer (some ⟨g, 0, none⟩), .int .i64 14] rfl ZA ?_; (with_reducible refine (spec_l01Next.calls g s0_0 s0_1 s0_2 14 t781 t782 t783 w0 _ ?side1 ?side2 A3.out).mono ?_); (case side1 => exact Zq3); (case side2 => exact Zq4); rintro e w6 ⟨rfl, hi, hb, hk⟩; refine ⟨_, rfl, ?_⟩; have n0_ := Aside0.mk (KeepBut.trans (by exact Zq5) hk (.inl rfl)); have n1_ := Aside0.mk (hb); have n2_ := Aside0.mk (hi); clear HK HB HI0; have HK := n0_; have HB := n1_; have HI0 := n2_; clear n0_ n1_ n2_; (try clear hb); (try clear hk); (try clear hi)) | ((with_reducible refine gate_dst (N := 11) rfl ?_); refine Kd.R_lit (Kd.int .i64) _ 2 ?hg (N := 11) ?hd (xs := ([(-1), wrap64 (a1 + 1), 1099511627776, (-4611686018427387904)] : List Int)) (inner := [.int .i64 (-1), .int .i64 (wrap64 (a1 + 1)), .int .i64 1099511627776, .int .i64 (-4611686018427387904)]) (ok := fun _ => True) (okp := fun _ => True) ?hr ?hp (fun _ hk => hk) trivial (Below.refl _ _) (Nat.le_refl _) (by simp) ?_; (case hd => rfl); (case hg => rfl); (case hr => exact ZqT); (case hp => exact (Reps.one (show Kd.M (Kd.int .i64) _ _ _ (-1) [.int .i64 (-1)] from rfl) (Reps.one (show Kd.M (Kd.int .i64) _ _ _ (wrap64 (a1 + 1)) [.int .i64 (wrap64 (a1 + 1))] from rfl) (Reps.one (show Kd.M (Kd.int .i64) _ _ _ 1099511627776 [.int .i64 1099511627776] from rfl) (Reps.one (show Kd.M (Kd.int .i64) _ _ _ (-4611686018427387904) [.int .i64 (-4611686018427387904)] from rfl) (Reps.none _ _)))))); intro v785 w7 ho8 hb hg_ hnew_; clear hg_ hnew_; (first | rw [← Ny784.out] at ho8 | (simp only [Int.reduceToNat] at ho8; rw [← Ny784.out] at ho8)); have n0_ := Aside0.mk (Kd.R_lower ho8 (keep_size (w := w) (g := g) (row := none) (by exact Zq5))); have n1_ := Aside0.mk (IsS176.below (by exact Zq3) hb); have n2_ := Aside0.mk (KeepBut.trans (by exact Zq5) (KeepBut.of_below hb g none) (.inl rfl)); have n3_ := Aside0.mk (below_step (by exact Zq4) hb); clear HI0 HK HB; have HO786 := n0_; have HI0 := n1_; have HK := n2_; have HB := n3_; clear n0_ n1_ n2_ n3_; clear hb ho8; obtain ⟨Ao9, co9, eo9⟩ := Kd.R_slice HO786.out; subst eo9) | ((with_reducible refine gate_callee (f := 136) rfl ?_); refine goesL_ (some 12) rfl rfl Try.func136 (by kernel_rfl) rfl #[.pointer (some ⟨g, 0, none⟩), .slice Ao9 y784.length co9] rfl ZA ?_; (with_reducible refine (spec_l01Pick.calls g s0_0 t782 t783 _ _ y784 t787 t788 t789 w0 _ ?side1 ?side2 ?side3 ?side4 ?side5 A5.out).mono ?_); (case side1 => exact Zq3); (case side2 => exact Zq4); (case side3 => exact ZqC ((Kd.R_reads' HO786.out).2.2)); (case side4 => exact (Kd.R_reads' HO786.out).2.1); (case side5 => exact far_slice (IsS176.own_ne HI0.out HO786.out (by decide))); rintro e w10 ⟨rfl, hi, hb, hk⟩; refine ⟨_, rfl, ?_⟩; have n0_ := Aside0.mk (Kd.R_mono (Kd.R_keep (IsS176.apart (show IsS176 w0 _ g s0_0 t782 t783 from by exact Zq3) (ZR HO786) (by decide)) hk (fun _ h => h.2)) (fun _ h => h.1)); have n1_ := Aside0.mk (KeepBut.trans (by exact Zq5) hk (.inl rfl)); have n2_ := Aside0.mk (hb); have n3_ := Aside0.mk (hi); clear HO786 HK HB HI0; have HO786 := n0_; have HK := n1_; have HB := n2_; have HI0 := n3_; clear n0_ n1_ n2_ n3_; (try clear hb); (try clear hk); (try clear hi)))
  go_ret
  exact ⟨ZqR, by exact Zq3, by exact Zq4, by exact Zq5⟩
 ·rw [if_neg c4] at H
  have c4b0 : (t781 == 0) = false := beq_eq_false_iff_ne.mpr c4
  have c4b1 : (t781 != 0) = true := bne_iff_ne.mpr c4
  replace H := Option.bind_eq_some_iff.mp H
  obtain ⟨⟨t790, t791, t792⟩, A110, H⟩ := H
  try dsimp only at H
  have A11 := Aside0.mk A110
  clear A110
  simp only [Option.some.injEq, Prod.mk.injEq] at H
  obtain ⟨rfl, rfl, rfl⟩ := H
  go_enter Try.func144, Try.ntmps144
  go_wp2_with (first | ((with_reducible refine gate_callee (f := 122) rfl ?_); refine goesL_ (some 6) rfl rfl Try.func122 (by kernel_rfl) rfl #[.pointer (some ⟨g, 0, none⟩), .int .i64 14] rfl ZA ?_; (with_reducible refine (spec_l01Next.calls g s0_0 s0_1 s0_2 14 t781 t782 t783 w0 _ ?side1 ?side2 A3.out).mono ?_); (case side1 => exact Zq3); (case side2 => exact Zq4); rintro e w12 ⟨rfl, hi, hb, hk⟩; refine ⟨_, rfl, ?_⟩; have n0_ := Aside0.mk (KeepBut.trans (by exact Zq5) hk (.inl rfl)); have n1_ := Aside0.mk (hb); have n2_ := Aside0.mk (hi); clear HK HB HI0; have HK := n0_; have HB := n1_; have HI0 := n2_; clear n0_ n1_ n2_; (try clear hb); (try clear hk); (try clear hi)) | ((with_reducible refine gate_callee (f := 122) rfl ?_); refine goesL_ (some 16) rfl rfl Try.func122 (by kernel_rfl) rfl #[.pointer (some ⟨g, 0, none⟩), .int .i64 (wrap64 (a1 + 1))] rfl ZA ?_; (with_reducible refine (spec_l01Next.calls g s0_0 t782 t783 (wrap64 (a1 + 1)) t790 t791 t792 w0 _ ?side1 ?side2 A11.out).mono ?_); (case side1 => exact Zq3); (case side2 => exact Zq4); rintro e w13 ⟨rfl, hi, hb, hk⟩; refine ⟨_, rfl, ?_⟩; have n0_ := Aside0.mk (KeepBut.trans (by exact Zq5) hk (.inl rfl)); have n1_ := Aside0.mk (hb); have n2_ := Aside0.mk (hi); clear HK HB HI0; have HK := n0_; have HB := n1_; have HI0 := n2_; clear n0_ n1_ n2_; (try clear hb); (try clear hk); (try clear hi)))
  go_ret
  exact ⟨ZqR, by exact Zq3, by exact Zq4, by exact Zq5⟩

end Go.Proofs.Ytlodpobegdbhaaa.X
