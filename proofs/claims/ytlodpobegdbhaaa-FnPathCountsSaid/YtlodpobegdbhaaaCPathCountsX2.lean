/- Contracts of functions that the law reaches, printed by a program of this session; Lean checks them. -/
import Derived.Test.YtlodpobegdbhaaaCPathCountsX0
import Derived.Test.YtlodpobegdbhaaaCPathCountsX1
import Derived.Test.YtlodpobegdbhaaaCPathCountsXZ
namespace Go.Proofs.Ytlodpobegdbhaaa.X
open Go.RowKit Go.Proofs.YtlodpobegdbhaaaW.PrintWords Go.Proofs.YtlodpobegdbhaaaW.PrintLast Go.Proofs.YtlodpobegdbhaaaW.PrintMore
attribute [local go_sem] max2_int min2_int max_two min_two max_three min_three max_four min_four   -- for this text's walks alone
set_option linter.unusedVariables false
set_option linter.unusedSimpArgs false

/-! ### spec_l03Bad: function 226 -/
def spec_l03Bad.f (s0_0 : List Int) (s0_1 : Int) (s0_2 : Int) (a1_0 : Int) (l1_1 : List Int) (l1_2 : List Int) : Option (Int × List Int × List Int × Int × Int) := (spec_l01Next.f s0_0 s0_1 s0_2 40).bind fun bt116 => (if bt116.1 = 0 then ((spec_l01Pick.f s0_0 bt116.2.1 bt116.2.2 (([0, 4, 10009] : List Int))).bind fun bt122 => (some (bt122.1, l1_1, l1_2, bt122.2.1, bt122.2.2))) else (if bt116.1 = 1 then ((spec_l01Own.f l1_2).bind fun t125 => (if t125.length < 17592186044416 then (some (a1_0, l1_1, (t125 ++ [1]), bt116.2.1, bt116.2.2)) else (none))) else (if bt116.1 = 2 then ((spec_l01Own.f l1_2).bind fun t131 => ((spec_l01Next.f s0_0 bt116.2.1 bt116.2.2 (t131.length : Int)).bind fun bt134 => ((spec_l01Pick.f s0_0 bt134.2.1 bt134.2.2 (([0, a1_0] : List Int))).bind fun bt140 => (if 0 ≤ bt134.1 then (if bt134.1 < (t131.length : Int) then (some (a1_0, l1_1, (t131.set (bt134.1 : Int).toNat bt140.1), bt140.2.1, bt140.2.2)) else (none)) else (none))))) else (if bt116.1 = 3 then ((spec_l01Own.f l1_1).bind fun t144 => ((spec_l01Pick.f s0_0 bt116.2.1 bt116.2.2 (([(-1), a1_0] : List Int))).bind fun bt150 => (if 0 < (t144.length : Int) then (some (a1_0, (t144.set (0 : Int).toNat bt150.1), l1_2, bt150.2.1, bt150.2.2)) else (none)))) else (some (a1_0, l1_1, l1_2, bt116.2.1, bt116.2.2))))))
def spec_l03Bad.T8 : Bool × List (List Nat × List Nat) := (true, [([], []), ([0], [0]), ([], []), ([], []), ([3], [3]), ([4], [4]), ([2, 5], [2, 5]), ([], []), ([], []), ([8], [8]), ([9], [9]), ([7, 10, 6], [7, 10]), ([1, 6, 0, 1, 2, 3, 4, 5, 6, 7, 8, 9, 10, 11], [1, 6]), ([12, 11, 11, 0, 1, 2, 3, 4, 5, 6, 7, 8, 9, 10, 11], [11, 12])])
def spec_l03Bad.B8 : List Nat := [0, 1, 0, 0, 8, 24, 60, 0, 0, 256, 768, 2044, 4095, 8191]
theorem spec_l03Bad.tab8 : rtab .any (opsOf Try.f226 8) = spec_l03Bad.T8 := by kernel_rfl
theorem spec_l03Bad.bits8 : waitsOk spec_l03Bad.T8.2 spec_l03Bad.B8 = true := by kernel_rfl
def spec_l03Bad.T11 : Bool × List (List Nat × List Nat) := (true, [([], []), ([0], [0]), ([], []), ([], []), ([3], [3]), ([4], [4]), ([2, 5], [2, 5]), ([1, 0, 1, 2, 3, 4, 5, 6], [1]), ([7, 6, 6, 0, 1, 2, 3, 4, 5, 6], [6, 7])])
def spec_l03Bad.B11 : List Nat := [0, 1, 0, 0, 8, 24, 60, 127, 255]
theorem spec_l03Bad.tab11 : rtab .any (opsOf Try.f226 11) = spec_l03Bad.T11 := by kernel_rfl
theorem spec_l03Bad.bits11 : waitsOk spec_l03Bad.T11.2 spec_l03Bad.B11 = true := by kernel_rfl
set_option maxHeartbeats 8000000 in
set_option maxRecDepth 100000 in
theorem spec_l03Bad.calls (g : Nat) (s0_0 : List Int) (s0_1 : Int) (s0_2 : Int) (a1_0 : Int) (P1_1_ : Nat → Prop) (u9000_ : Value) (l1_1 : List Int) (P1_2_ : Nat → Prop) (u9001_ : Value) (l1_2 : List Int) (r1 : Int) (r2 : List Int) (r3 : List Int) (r4 : Int) (r5 : Int) (w0 w : World) (hI : IsS176 w0 w g s0_0 s0_1 s0_2) (hB : Below w0.heap.size w0 w) (ho1_1 : Kd.R (Kd.int .i64) 2 w w0.heap.size P1_1_ u9000_ l1_1) (hp1_1_1_2 : ∀ k_, P1_1_ k_ → ¬ P1_2_ k_) (ho1_2 : Kd.R (Kd.int .i64) 2 w w0.heap.size P1_2_ u9001_ l1_2) (hp1_2_1_1 : ∀ k_, P1_2_ k_ → ¬ P1_1_ k_) (h : spec_l03Bad.f s0_0 s0_1 s0_2 a1_0 l1_1 l1_2 = some (r1, r2, r3, r4, r5)) :
  Calls Try.prog 226 #[.pointer (some ⟨g, 0, none⟩), .agg #[.int .i64 a1_0, u9000_, u9001_]] w fun e w' => ∃ v1_ v2_ : Value, e = .returned (.agg #[.int .i64 r1, v1_, v2_]) ∧ Kd.R (Kd.int .i64) 2 w' w0.heap.size (fun k_ => ((P1_1_ k_ ∨ P1_2_ k_) ∨ w.heap.size ≤ k_) ∧ some k_ ≠ (v2_ : Value).ownBlock) v1_ r2 ∧ Kd.R (Kd.int .i64) 2 w' w0.heap.size (fun k_ => ((P1_1_ k_ ∨ P1_2_ k_) ∨ w.heap.size ≤ k_) ∧ some k_ ≠ (v1_ : Value).ownBlock) v2_ r3 ∧ IsS176 w0 w' g s0_0 r4 r5 ∧ Below w0.heap.size w0 w' ∧ Kept w w' (fun k_ => (P1_1_ k_ ∨ P1_2_ k_) ∨ k_ = g) := by
 have hu26 := Try.underlying26
 have HO1_1 := Aside0.mk (show Kd.R (Kd.int .i64) 2 w w0.heap.size (fun k_ => ((P1_1_ k_ ∨ P1_2_ k_) ∨ w.heap.size ≤ k_) ∧ some k_ ≠ (u9001_ : Value).ownBlock) u9000_ l1_1 from Kd.R_mono ho1_1 (fun k_ hk => ⟨(.inl (.inl hk)), fun e_ => hp1_1_1_2 k_ hk (ho1_2.1 k_ e_.symm)⟩))
 have HO1_2 := Aside0.mk (show Kd.R (Kd.int .i64) 2 w w0.heap.size (fun k_ => ((P1_1_ k_ ∨ P1_2_ k_) ∨ w.heap.size ≤ k_) ∧ some k_ ≠ (u9000_ : Value).ownBlock) u9001_ l1_2 from Kd.R_mono ho1_2 (fun k_ hk => ⟨(.inl (.inr hk)), fun e_ => hp1_2_1_1 k_ hk (ho1_1.1 k_ e_.symm)⟩))
 have HI0 := Aside0.mk hI
 have HL := Aside0.mk hB.size
 clear hI
 have HK := Aside0.mk (Kept.refl w (fun k_ => (P1_1_ k_ ∨ P1_2_ k_) ∨ k_ = g))
 have HW0 := Aside0.mk hB.size
 have HB := Aside0.mk hB
 clear hB
 have H : ((spec_l01Next.f s0_0 s0_1 s0_2 40).bind fun bt116 => (if bt116.1 = 0 then ((spec_l01Pick.f s0_0 bt116.2.1 bt116.2.2 (([0, 4, 10009] : List Int))).bind fun bt122 => (some (bt122.1, l1_1, l1_2, bt122.2.1, bt122.2.2))) else (if bt116.1 = 1 then ((spec_l01Own.f l1_2).bind fun t125 => (if t125.length < 17592186044416 then (some (a1_0, l1_1, (t125 ++ [1]), bt116.2.1, bt116.2.2)) else (none))) else (if bt116.1 = 2 then ((spec_l01Own.f l1_2).bind fun t131 => ((spec_l01Next.f s0_0 bt116.2.1 bt116.2.2 (t131.length : Int)).bind fun bt134 => ((spec_l01Pick.f s0_0 bt134.2.1 bt134.2.2 (([0, a1_0] : List Int))).bind fun bt140 => (if 0 ≤ bt134.1 then (if bt134.1 < (t131.length : Int) then (some (a1_0, l1_1, (t131.set (bt134.1 : Int).toNat bt140.1), bt140.2.1, bt140.2.2)) else (none)) else (none))))) else (if bt116.1 = 3 then ((spec_l01Own.f l1_1).bind fun t144 => ((spec_l01Pick.f s0_0 bt116.2.1 bt116.2.2 (([(-1), a1_0] : List Int))).bind fun bt150 => (if 0 < (t144.length : Int) then (some (a1_0, (t144.set (0 : Int).toNat bt150.1), l1_2, bt150.2.1, bt150.2.2)) else (none)))) else (some (a1_0, l1_1, l1_2, bt116.2.1, bt116.2.2))))))) = some (r1, r2, r3, r4, r5) := h
 clear h
 replace H := Option.bind_eq_some_iff.mp H
 obtain ⟨⟨t116, t117, t118⟩, A30, H⟩ := H
 try dsimp only at H
 have A3 := Aside0.mk A30
 clear A30
 by_cases c4 : t116 = 0
 ·rw [if_pos c4] at H
  have c4b0 : (t116 == 0) = true := beq_iff_eq.mpr c4
  have c4b1 : (t116 != 0) = false := bne_eq_false_iff_eq.mpr c4
  clear c4
  obtain ⟨y119, hy119⟩ : ∃ y_ : List Int, y_ = (([0, 4, 10009] : List Int)) := ⟨_, rfl⟩
  replace H : ((spec_l01Pick.f s0_0 t117 t118 y119).bind fun bt122 => (some (bt122.1, l1_1, l1_2, bt122.2.1, bt122.2.2))) = some (r1, r2, r3, r4, r5) := by have hq_ := hy119; exact ZqH
  have Ny119 := Aside0.mk hy119
  clear hy119
  replace H := Option.bind_eq_some_iff.mp H
  obtain ⟨⟨t122, t123, t124⟩, A50, H⟩ := H
  try dsimp only at H
  have A5 := Aside0.mk A50
  clear A50
  simp only [Option.some.injEq, Prod.mk.injEq] at H
  obtain ⟨rfl, rfl, rfl, rfl, rfl⟩ := H
  obtain ⟨Ao6, co6, eo6⟩ := Kd.R_slice HO1_1.out
  subst eo6
  obtain ⟨Ao7, co7, eo7⟩ := Kd.R_slice HO1_2.out
  subst eo7
  go_enter Try.func226, Try.ntmps226
  go_wp2_with (first | ((with_reducible refine gate_dst (N := 3) rfl ?_); refine box_event ?hg (N := 3) ?hd (cs := #[.int .i64 a1_0, .slice Ao6 l1_1.length co6, .slice Ao7 l1_2.length co7]) (t := 26) ?hr ?_; (case hd => rfl); (case hg => rfl); (case hr => exact ZqT); intro gb114 hg w8 hbox hb; have n0_ := Aside0.mk (Kd.R_below (ZR HO1_1) hb); have n1_ := Aside0.mk (Kd.R_below (ZR HO1_2) hb); have n2_ := Aside0.mk (IsS176.below (by exact Zq3) hb); have n3_ := Aside0.mk (Kept.below (S := (fun k_ => (P1_1_ k_ ∨ P1_2_ k_) ∨ k_ = g)) (by exact Zq6) hb); have n4_ := Aside0.mk (below_step (by exact Zq4) hb); have n5_ := Aside0.mk (hbox); have n6_ := Aside0.mk ((by rw [hg]; exact (by first | exact HK.out.1 | exact (show Kept w _ (fun k_ => (P1_1_ k_ ∨ P1_2_ k_) ∨ k_ = g) from by exact Zq6).1) : w.heap.size ≤ gb114)); have n7_ := Aside0.mk ((by rw [hg]; exact (below_size (by exact Zq4)) : w0.heap.size ≤ gb114)); have n8_ := Aside0.mk ((by rw [hg]; exact Nat.ne_of_lt (IsS176.lt (show IsS176 w0 _ g s0_0 s0_1 s0_2 from by exact Zq3)) : g ≠ gb114)); have n9_ := Aside0.mk ((by rw [hg]; exact Nat.ne_of_gt (IsS176.lt (show IsS176 w0 _ g s0_0 s0_1 s0_2 from by exact Zq3)) : gb114 ≠ g)); clear HO1_1 HO1_2 HI0 HK HB; have HO1_1 := n0_; have HO1_2 := n1_; have HI0 := n2_; have HK := n3_; have HB := n4_; have BK114 := n5_; have GW114 := n6_; have GE114 := n7_; have NB0_114 := n8_; have NB114_0 := n9_; clear n0_ n1_ n2_ n3_ n4_ n5_ n6_ n7_ n8_ n9_; clear hb hbox hg) | ((with_reducible refine gate_dst (N := 4) rfl ?_); refine box_event ?hg (N := 4) ?hd (cs := #[.int .i64 0, .slice none 0 0, .slice none 0 0]) (t := 26) ?hr ?_; (case hd => rfl); (case hg => rfl); (case hr => exact ZqT); intro gb115 hg w9 hbox hb; have n0_ := Aside0.mk (Kd.R_below (ZR HO1_1) hb); have n1_ := Aside0.mk (Kd.R_below (ZR HO1_2) hb); have n2_ := Aside0.mk (IsS176.below (by exact Zq7) hb); have n3_ := ZL BK114 hb; have n4_ := Aside0.mk (Kept.below (S := (fun k_ => (P1_1_ k_ ∨ P1_2_ k_) ∨ k_ = g)) (by exact Zq8) hb); have n5_ := Aside0.mk (below_step (by exact Zq9) hb); have n6_ := Aside0.mk (hbox); have n7_ := Aside0.mk ((by rw [hg]; exact (by first | exact HK.out.1 | exact (show Kept w _ (fun k_ => (P1_1_ k_ ∨ P1_2_ k_) ∨ k_ = g) from by exact Zq8).1) : w.heap.size ≤ gb115)); have n8_ := Aside0.mk ((by rw [hg]; exact (below_size (by exact Zq9)) : w0.heap.size ≤ gb115)); have n9_ := Aside0.mk ((ZN hg BK114 : gb114 ≠ gb115)); have n10_ := Aside0.mk ((ZM hg BK114 : gb115 ≠ gb114)); have n11_ := Aside0.mk ((by rw [hg]; exact Nat.ne_of_lt (IsS176.lt (show IsS176 w0 _ g s0_0 s0_1 s0_2 from by exact Zq7)) : g ≠ gb115)); have n12_ := Aside0.mk ((by rw [hg]; exact Nat.ne_of_gt (IsS176.lt (show IsS176 w0 _ g s0_0 s0_1 s0_2 from by exact Zq7)) : gb115 ≠ g)); clear HO1_1 HO1_2 HI0 BK114 HK HB; have HO1_1 := n0_; have HO1_2 := n1_; have HI0 := n2_; have BK114 := n3_; have HK := n4_; have HB := n5_; have BK115 := n6_; have GW115 := n7_; have GE115 := n8_; have NB114_115 := n9_; have NB115_114 := n10_; have NB0_115 := n11_; have NB115_0 := n12_; clear n0_ n1_ n2_ n3_ n4_ n5_ n6_ n7_ n8_ n9_ n10_ n11_ n12_; clear hb hbox hg) | ((with_reducible refine gate_callee (f := 122) rfl ?_); refine goesL_ (some 6) rfl rfl Try.func122 (by kernel_rfl) rfl #[.pointer (some ⟨g, 0, none⟩), .int .i64 40] rfl ZA ?_; (with_reducible refine (spec_l01Next.calls g s0_0 s0_1 s0_2 40 t116 t117 t118 w0 _ ?side1 ?side2 A3.out).mono ?_); (case side1 => exact Zq10); (case side2 => exact Zq11); rintro e w10 ⟨rfl, hi, hb, hk⟩; refine ⟨_, rfl, ?_⟩; have n0_ := Aside0.mk (Kd.R_mono (Kd.R_keep (IsS176.apart (show IsS176 w0 _ g s0_0 s0_1 s0_2 from by exact Zq10) (ZR HO1_1) (by decide)) hk (fun _ h => h.2)) (fun _ h => h.1)); have n1_ := Aside0.mk (Kd.R_mono (Kd.R_keep (IsS176.apart (show IsS176 w0 _ g s0_0 s0_1 s0_2 from by exact Zq10) (ZR HO1_2) (by decide)) hk (fun _ h => h.2)) (fun _ h => h.1)); have n2_ := Aside0.mk (KeepBut.blk hk (g' := gb114) (o := .cells #[.int .i64 a1_0, .slice Ao6 l1_1.length co6, .slice Ao7 l1_2.length co7] 26 (0, 0)) (ZK BK114) NB114_0.out (by simp)); have n3_ := Aside0.mk (KeepBut.blk hk (g' := gb115) (o := .cells #[.int .i64 0, .slice none 0 0, .slice none 0 0] 26 (0, 0)) (ZK BK115) NB115_0.out (by simp)); have n4_ := Aside0.mk (Kept.of_keep (S := (fun k_ => (P1_1_ k_ ∨ P1_2_ k_) ∨ k_ = g)) (by exact Zq12) hk (.inl (.inr rfl))); have n5_ := Aside0.mk (hb); have n6_ := Aside0.mk (hi); clear HO1_1 HO1_2 BK114 BK115 HK HB HI0; have HO1_1 := n0_; have HO1_2 := n1_; have BK114 := n2_; have BK115 := n3_; have HK := n4_; have HB := n5_; have HI0 := n6_; clear n0_ n1_ n2_ n3_ n4_ n5_ n6_; (try clear hb); (try clear hk); (try clear hi)) | ((with_reducible refine gate_dst (N := 10) rfl ?_); refine Kd.R_lit (Kd.int .i64) _ 2 ?hg (N := 10) ?hd (xs := ([0, 4, 10009] : List Int)) (inner := [.int .i64 0, .int .i64 4, .int .i64 10009]) (ok := fun _ => True) (okp := fun _ => True) ?hr ?hp (fun _ hk => hk) trivial (Below.refl _ _) (Nat.le_refl _) (by simp) ?_; (case hd => rfl); (case hg => rfl); (case hr => exact ZqT); (case hp => exact (Reps.one (show Kd.M (Kd.int .i64) _ _ _ 0 [.int .i64 0] from rfl) (Reps.one (show Kd.M (Kd.int .i64) _ _ _ 4 [.int .i64 4] from rfl) (Reps.one (show Kd.M (Kd.int .i64) _ _ _ 10009 [.int .i64 10009] from rfl) (Reps.none _ _))))); intro v120 w11 ho12 hb hg_ hnew_; clear hg_ hnew_; (first | rw [← Ny119.out] at ho12 | (simp only [Int.reduceToNat] at ho12; rw [← Ny119.out] at ho12)); have n0_ := Aside0.mk (Kd.R_elder' (ZR HO1_1) (Kd.R_base ho12) hb); have n1_ := Aside0.mk (Kd.R_elder' (ZR HO1_2) (Kd.R_base ho12) hb); have n2_ := Aside0.mk (Kd.R_lower (Kd.R_new' (Kd.R_new' (Kd.R_newM (M := fun k_ => ((P1_1_ k_ ∨ P1_2_ k_) ∨ w.heap.size ≤ k_)) ho12 (by first | exact HK.out.1 | exact (show Kept w _ (fun k_ => (P1_1_ k_ ∨ P1_2_ k_) ∨ k_ = g) from by exact Zq12).1) (fun k_ h_ => .inr h_)) (Kd.R_lt (ZR HO1_1))) (Kd.R_lt (ZR HO1_2))) (below_size (by exact Zq11))); have n3_ := Aside0.mk (IsS176.below (by exact Zq10) hb); have n4_ := ZL BK114 hb; have n5_ := ZL BK115 hb; have n6_ := Aside0.mk (Kept.below (S := (fun k_ => (P1_1_ k_ ∨ P1_2_ k_) ∨ k_ = g)) (by exact Zq12) hb); have n7_ := Aside0.mk (below_step (by exact Zq11) hb); clear HO1_1 HO1_2 HI0 BK114 BK115 HK HB; have HO1_1 := n0_; have HO1_2 := n1_; have HO121 := n2_; have HI0 := n3_; have BK114 := n4_; have BK115 := n5_; have HK := n6_; have HB := n7_; clear n0_ n1_ n2_ n3_ n4_ n5_ n6_ n7_; clear hb ho12; obtain ⟨Ao13, co13, eo13⟩ := Kd.R_slice HO121.out; subst eo13) | ((with_reducible refine gate_callee (f := 136) rfl ?_); refine goesL_ (some 11) rfl rfl Try.func136 (by kernel_rfl) rfl #[.pointer (some ⟨g, 0, none⟩), .slice Ao13 y119.length co13] rfl ZA ?_; (with_reducible refine (spec_l01Pick.calls g s0_0 t117 t118 _ _ y119 t122 t123 t124 w0 _ ?side1 ?side2 ?side3 ?side4 ?side5 A5.out).mono ?_); (case side1 => exact Zq10); (case side2 => exact Zq11); (case side3 => exact ZqC ((Kd.R_reads' HO121.out).2.2)); (case side4 => exact (Kd.R_reads' HO121.out).2.1); (case side5 => exact far_slice (IsS176.own_ne HI0.out HO121.out (by decide))); rintro e w14 ⟨rfl, hi, hb, hk⟩; refine ⟨_, rfl, ?_⟩; have n0_ := Aside0.mk (Kd.R_mono (Kd.R_keep (IsS176.apart (show IsS176 w0 _ g s0_0 t117 t118 from by exact Zq10) (ZR HO1_1) (by decide)) hk (fun _ h => h.2)) (fun _ h => h.1)); have n1_ := Aside0.mk (Kd.R_mono (Kd.R_keep (IsS176.apart (show IsS176 w0 _ g s0_0 t117 t118 from by exact Zq10) (ZR HO1_2) (by decide)) hk (fun _ h => h.2)) (fun _ h => h.1)); have n2_ := Aside0.mk (KeepBut.blk hk (g' := gb114) (o := .cells #[.int .i64 a1_0, .slice Ao6 l1_1.length co6, .slice Ao7 l1_2.length co7] 26 (0, 0)) (ZK BK114) NB114_0.out (by simp)); have n3_ := Aside0.mk (KeepBut.blk hk (g' := gb115) (o := .cells #[.int .i64 0, .slice none 0 0, .slice none 0 0] 26 (0, 0)) (ZK BK115) NB115_0.out (by simp)); have n4_ := Aside0.mk (Kd.R_mono (Kd.R_keep (IsS176.apart (show IsS176 w0 _ g s0_0 t117 t118 from by exact Zq10) (ZR HO121) (by decide)) hk (fun _ h => h.2)) (fun _ h => h.1)); have n5_ := Aside0.mk (Kept.of_keep (S := (fun k_ => (P1_1_ k_ ∨ P1_2_ k_) ∨ k_ = g)) (by exact Zq12) hk (.inl (.inr rfl))); have n6_ := Aside0.mk (hb); have n7_ := Aside0.mk (hi); clear HO1_1 HO1_2 BK114 BK115 HO121 HK HB HI0; have HO1_1 := n0_; have HO1_2 := n1_; have BK114 := n2_; have BK115 := n3_; have HO121 := n4_; have HK := n5_; have HB := n6_; have HI0 := n7_; clear n0_ n1_ n2_ n3_ n4_ n5_ n6_ n7_; (try clear hb); (try clear hk); (try clear hi); have hnb15 := NB114_115.out; have hnc15 := NB115_114.out; have hnb16 := NB114_0.out; have hnc16 := NB0_114.out; obtain ⟨hcz17_0, hcz17_1, hcz17_2, hfz17_0, hfz17_1, hfz17_2⟩ := ZD3 BK114; have hnb18 := NB115_0.out; have hnc18 := NB0_115.out; obtain ⟨hcz19_0, hcz19_1, hcz19_2, hfz19_0, hfz19_1, hfz19_2⟩ := ZD3 BK115))
  refine bodyPost_ret (results_cell_row rfl _ _ gb115 26 #[.int .i64 t122, .slice Ao6 l1_1.length co6, .slice Ao7 l1_2.length co7] (0, 0) _ rfl (by refine ZS ?_; refine blk_put (cs := #[.int .i64 t122, .slice Ao6 l1_1.length co6, .slice none 0 0]) ?_ 2 _ rfl; refine ZS ?_; refine blk_put (cs := #[.int .i64 t122, .slice none 0 0, .slice none 0 0]) ?_ 1 _ rfl; refine ZS ?_; refine blk_put (cs := #[.int .i64 0, .slice none 0 0, .slice none 0 0]) ?_ 0 _ rfl; refine ZS ?_; refine blk_far ?_ NB115_114.out _; refine ZS ?_; exact BK115.out) Try.underlying26 rfl (by kernel_rfl)) rfl ?_
  exact ⟨_, _, ZqR, by refine ZQ ?_; exact Kd.R_mono (Kd.R_far (p := ⟨gb115, 2, none⟩) (Kd.R_far (p := ⟨gb115, 1, none⟩) (Kd.R_far (p := ⟨gb115, 0, none⟩) (Kd.R_far (p := ⟨gb114, 0, none⟩) (Kd.R_types (Kd.R_types HO1_1.out BK114.out (by decide)) BK115.out (by decide)) (fun _ hk => hk.1.2) (.int .i64 t122)) (fun _ hk => hk.2) (.int .i64 t122)) (fun _ hk => hk.2) (.slice Ao6 l1_1.length co6)) (fun _ hk => hk.2) (.slice Ao7 l1_2.length co7)) (fun _ hk => (And.intro (hk.1.1.1.1) (hk.1.1.1.2))), by refine ZQ ?_; exact Kd.R_mono (Kd.R_far (p := ⟨gb115, 2, none⟩) (Kd.R_far (p := ⟨gb115, 1, none⟩) (Kd.R_far (p := ⟨gb115, 0, none⟩) (Kd.R_far (p := ⟨gb114, 0, none⟩) (Kd.R_types (Kd.R_types HO1_2.out BK114.out (by decide)) BK115.out (by decide)) (fun _ hk => hk.1.2) (.int .i64 t122)) (fun _ hk => hk.2) (.int .i64 t122)) (fun _ hk => hk.2) (.slice Ao6 l1_1.length co6)) (fun _ hk => hk.2) (.slice Ao7 l1_2.length co7)) (fun _ hk => (And.intro (hk.1.1.1.1) (hk.1.1.1.2))), by exact Zq10, by exact Zq11, by exact Zq12⟩
 ·rw [if_neg c4] at H
  have c4b0 : (t116 == 0) = false := beq_eq_false_iff_ne.mpr c4
  have c4b1 : (t116 != 0) = true := bne_iff_ne.mpr c4
  by_cases c20 : t116 = 1
  ·rw [if_pos c20] at H
   have c20b0 : (t116 == 1) = true := beq_iff_eq.mpr c20
   have c20b1 : (t116 != 1) = false := bne_eq_false_iff_eq.mpr c20
   clear c20
   replace H := Option.bind_eq_some_iff.mp H
   obtain ⟨t125, A210, H⟩ := H
   try dsimp only at H
   have A21 := Aside0.mk A210
   clear A210
   by_cases c22 : t125.length < 17592186044416
   ·rw [if_pos c22] at H
    have LMc22 := Aside0.mk c22
    clear c22
    obtain ⟨y128, hy128⟩ : ∃ y_ : List Int, y_ = (t125 ++ [1]) := ⟨_, rfl⟩
    replace H : (some (a1_0, l1_1, y128, t117, t118)) = some (r1, r2, r3, r4, r5) := by have hq_ := hy128; exact ZqH
    have Ny128 := Aside0.mk hy128
    clear hy128
    simp only [Option.some.injEq, Prod.mk.injEq] at H
    obtain ⟨rfl, rfl, rfl, rfl, rfl⟩ := H
    obtain ⟨Ao23, co23, eo23⟩ := Kd.R_slice HO1_1.out
    subst eo23
    obtain ⟨Ao24, co24, eo24⟩ := Kd.R_slice HO1_2.out
    subst eo24
    go_enter Try.func226, Try.ntmps226
    go_wp2_with (first | ((with_reducible refine gate_dst (N := 3) rfl ?_); refine box_event ?hg (N := 3) ?hd (cs := #[.int .i64 a1_0, .slice Ao23 l1_1.length co23, .slice Ao24 l1_2.length co24]) (t := 26) ?hr ?_; (case hd => rfl); (case hg => rfl); (case hr => exact ZqT); intro gb114 hg w25 hbox hb; have n0_ := Aside0.mk (Kd.R_below (ZR HO1_1) hb); have n1_ := Aside0.mk (Kd.R_below (ZR HO1_2) hb); have n2_ := Aside0.mk (IsS176.below (by exact Zq3) hb); have n3_ := Aside0.mk (Kept.below (S := (fun k_ => (P1_1_ k_ ∨ P1_2_ k_) ∨ k_ = g)) (by exact Zq6) hb); have n4_ := Aside0.mk (below_step (by exact Zq4) hb); have n5_ := Aside0.mk (hbox); have n6_ := Aside0.mk ((by rw [hg]; exact (by first | exact HK.out.1 | exact (show Kept w _ (fun k_ => (P1_1_ k_ ∨ P1_2_ k_) ∨ k_ = g) from by exact Zq6).1) : w.heap.size ≤ gb114)); have n7_ := Aside0.mk ((by rw [hg]; exact (below_size (by exact Zq4)) : w0.heap.size ≤ gb114)); have n8_ := Aside0.mk ((by rw [hg]; exact Nat.ne_of_lt (IsS176.lt (show IsS176 w0 _ g s0_0 s0_1 s0_2 from by exact Zq3)) : g ≠ gb114)); have n9_ := Aside0.mk ((by rw [hg]; exact Nat.ne_of_gt (IsS176.lt (show IsS176 w0 _ g s0_0 s0_1 s0_2 from by exact Zq3)) : gb114 ≠ g)); clear HO1_1 HO1_2 HI0 HK HB; have HO1_1 := n0_; have HO1_2 := n1_; have HI0 := n2_; have HK := n3_; have HB := n4_; have BK114 := n5_; have GW114 := n6_; have GE114 := n7_; have NB0_114 := n8_; have NB114_0 := n9_; clear n0_ n1_ n2_ n3_ n4_ n5_ n6_ n7_ n8_ n9_; clear hb hbox hg) | ((with_reducible refine gate_dst (N := 4) rfl ?_); refine box_event ?hg (N := 4) ?hd (cs := #[.int .i64 0, .slice none 0 0, .slice none 0 0]) (t := 26) ?hr ?_; (case hd => rfl); (case hg => rfl); (case hr => exact ZqT); intro gb115 hg w26 hbox hb; have n0_ := Aside0.mk (Kd.R_below (ZR HO1_1) hb); have n1_ := Aside0.mk (Kd.R_below (ZR HO1_2) hb); have n2_ := Aside0.mk (IsS176.below (by exact Zq7) hb); have n3_ := ZL BK114 hb; have n4_ := Aside0.mk (Kept.below (S := (fun k_ => (P1_1_ k_ ∨ P1_2_ k_) ∨ k_ = g)) (by exact Zq8) hb); have n5_ := Aside0.mk (below_step (by exact Zq9) hb); have n6_ := Aside0.mk (hbox); have n7_ := Aside0.mk ((by rw [hg]; exact (by first | exact HK.out.1 | exact (show Kept w _ (fun k_ => (P1_1_ k_ ∨ P1_2_ k_) ∨ k_ = g) from by exact Zq8).1) : w.heap.size ≤ gb115)); have n8_ := Aside0.mk ((by rw [hg]; exact (below_size (by exact Zq9)) : w0.heap.size ≤ gb115)); have n9_ := Aside0.mk ((ZN hg BK114 : gb114 ≠ gb115)); have n10_ := Aside0.mk ((ZM hg BK114 : gb115 ≠ gb114)); have n11_ := Aside0.mk ((by rw [hg]; exact Nat.ne_of_lt (IsS176.lt (show IsS176 w0 _ g s0_0 s0_1 s0_2 from by exact Zq7)) : g ≠ gb115)); have n12_ := Aside0.mk ((by rw [hg]; exact Nat.ne_of_gt (IsS176.lt (show IsS176 w0 _ g s0_0 s0_1 s0_2 from by exact Zq7)) : gb115 ≠ g)); clear HO1_1 HO1_2 HI0 BK114 HK HB; have HO1_1 := n0_; have HO1_2 := n1_; have HI0 := n2_; have BK114 := n3_; have HK := n4_; have HB := n5_; have BK115 := n6_; have GW115 := n7_; have GE115 := n8_; have NB114_115 := n9_; have NB115_114 := n10_; have NB0_115 := n11_; have NB115_0 := n12_; clear n0_ n1_ n2_ n3_ n4_ n5_ n6_ n7_ n8_ n9_ n10_ n11_ n12_; clear hb hbox hg) | ((with_reducible refine gate_callee (f := 122) rfl ?_); refine goesL_ (some 6) rfl rfl Try.func122 (by kernel_rfl) rfl #[.pointer (some ⟨g, 0, none⟩), .int .i64 40] rfl ZA ?_; (with_reducible refine (spec_l01Next.calls g s0_0 s0_1 s0_2 40 t116 t117 t118 w0 _ ?side1 ?side2 A3.out).mono ?_); (case side1 => exact Zq10); (case side2 => exact Zq11); rintro e w27 ⟨rfl, hi, hb, hk⟩; refine ⟨_, rfl, ?_⟩; have n0_ := Aside0.mk (Kd.R_mono (Kd.R_keep (IsS176.apart (show IsS176 w0 _ g s0_0 s0_1 s0_2 from by exact Zq10) (ZR HO1_1) (by decide)) hk (fun _ h => h.2)) (fun _ h => h.1)); have n1_ := Aside0.mk (Kd.R_mono (Kd.R_keep (IsS176.apart (show IsS176 w0 _ g s0_0 s0_1 s0_2 from by exact Zq10) (ZR HO1_2) (by decide)) hk (fun _ h => h.2)) (fun _ h => h.1)); have n2_ := Aside0.mk (KeepBut.blk hk (g' := gb114) (o := .cells #[.int .i64 a1_0, .slice Ao23 l1_1.length co23, .slice Ao24 l1_2.length co24] 26 (0, 0)) (ZK BK114) NB114_0.out (by simp)); have n3_ := Aside0.mk (KeepBut.blk hk (g' := gb115) (o := .cells #[.int .i64 0, .slice none 0 0, .slice none 0 0] 26 (0, 0)) (ZK BK115) NB115_0.out (by simp)); have n4_ := Aside0.mk (Kept.of_keep (S := (fun k_ => (P1_1_ k_ ∨ P1_2_ k_) ∨ k_ = g)) (by exact Zq12) hk (.inl (.inr rfl))); have n5_ := Aside0.mk (hb); have n6_ := Aside0.mk (hi); clear HO1_1 HO1_2 BK114 BK115 HK HB HI0; have HO1_1 := n0_; have HO1_2 := n1_; have BK114 := n2_; have BK115 := n3_; have HK := n4_; have HB := n5_; have HI0 := n6_; clear n0_ n1_ n2_ n3_ n4_ n5_ n6_; (try clear hb); (try clear hk); (try clear hi); have hnb28 := NB114_115.out; have hnc28 := NB115_114.out; have hnb29 := NB114_0.out; have hnc29 := NB0_114.out; obtain ⟨hcz30_0, hcz30_1, hcz30_2, hfz30_0, hfz30_1, hfz30_2⟩ := ZD3 BK114) | ((with_reducible refine gate_callee (f := 155) rfl ?_); refine goesL_ (some 17) rfl rfl Try.func155 (by kernel_rfl) rfl #[.slice Ao24 l1_2.length co24] rfl ZA ?_; (with_reducible refine (spec_l01Own.calls _ _ l1_2 t125 _ ?side1 ?side2 A21.out).mono ?_); (case side1 => exact ZqC ((Kd.R_reads' HO1_2.out).2.2)); (case side2 => exact (Kd.R_reads' HO1_2.out).2.1); rintro e w31 ⟨v126, rfl, ho0, hb⟩; refine ⟨_, rfl, ?_⟩; have n0_ := Aside0.mk (Kd.R_elder' (ZR HO1_1) (Kd.R_base ho0) hb); have n1_ := Aside0.mk (Kd.R_elder' (ZR HO1_2) (Kd.R_base ho0) hb); have n2_ := Aside0.mk (Kd.R_lower (Kd.R_new' (Kd.R_new' (Kd.R_newM (M := fun k_ => ((P1_1_ k_ ∨ P1_2_ k_) ∨ w.heap.size ≤ k_)) ho0 (by first | exact HK.out.1 | exact (show Kept w _ (fun k_ => (P1_1_ k_ ∨ P1_2_ k_) ∨ k_ = g) from by exact Zq12).1) (fun k_ h_ => .inr h_)) (Kd.R_lt (ZR HO1_1))) (Kd.R_lt (ZR HO1_2))) (below_size (by exact Zq11))); have n3_ := Aside0.mk (IsS176.below (by exact Zq10) hb); have n4_ := ZL BK114 hb; have n5_ := ZL BK115 hb; have n6_ := Aside0.mk (Kept.below (S := (fun k_ => (P1_1_ k_ ∨ P1_2_ k_) ∨ k_ = g)) (by exact Zq12) hb); have n7_ := Aside0.mk (below_step (by exact Zq11) hb); clear HO1_1 HO1_2 HI0 BK114 BK115 HK HB; have HO1_1 := n0_; have HO1_2 := n1_; have HO127 := n2_; have HI0 := n3_; have BK114 := n4_; have BK115 := n5_; have HK := n6_; have HB := n7_; clear n0_ n1_ n2_ n3_ n4_ n5_ n6_ n7_; (try clear hb); (try clear ho0)) | ((with_reducible refine gate_builtin (b := .append) (xs := #[.tmp 17, .tmp 18]) rfl ?_); at_builtin; refine Kd.R_append (Kd.int .i64) (w0 := w0) w0.heap.size rfl (.tmp 17) (.tmp 18) 24 2 (.int .i64 0) 8 rfl Try.underlying24 info2 rfl (by decide) (by omega) v126 t125 1 [.int .i64 1] (fun k_ => ((P1_1_ k_ ∨ P1_2_ k_) ∨ w.heap.size ≤ k_) ∧ some k_ ≠ (.slice Ao23 l1_1.length co23 : Value).ownBlock ∧ some k_ ≠ (.slice Ao24 l1_2.length co24 : Value).ownBlock) (fun _ => False) rfl rfl ?aP (fun _ hk => hk.elim) ?aF ?aO ?aB ?aS ?aL ?_; (case aP => exact rfl); (case aB => exact (by exact Zq11)); (case aF => exact (fun k_ hk => ⟨(.inr (Nat.le_trans (by first | exact HK.out.1 | exact (show Kept w _ (fun k_ => (P1_1_ k_ ∨ P1_2_ k_) ∨ k_ = g) from by exact Zq12).1) hk)), Kd.fresh' (Kd.R_lt (ZR HO1_1)) k_ hk, Kd.fresh' (Kd.R_lt (ZR HO1_2)) k_ hk⟩)); (case aO => exact (by refine ZQ ?_; exact Kd.R_mono HO127.out (fun _ hk => (And.intro (hk.1.1.1) ((And.intro (hk.1.2) (hk.2))))))); (case aS => exact (below_size (by exact Zq11))); (case aL => have := LMc22.out; omega); intro v129 w32 ho hb hg hat; rw [← Ny128.out] at ho; have n0_ := Aside0.mk (IsS176.grown (by exact Zq10) hg (IsS176.own_ne HI0.out HO127.out (by decide))); have n1_ := Aside0.mk (Kd.R_after (ok := (fun k_ => ((P1_1_ k_ ∨ P1_2_ k_) ∨ w.heap.size ≤ k_) ∧ some k_ ≠ (.slice Ao24 l1_2.length co24 : Value).ownBlock)) (ZR HO1_1) hg hat); have n2_ := Aside0.mk (Kd.R_after (ok := (fun k_ => ((P1_1_ k_ ∨ P1_2_ k_) ∨ w.heap.size ≤ k_) ∧ some k_ ≠ (.slice Ao23 l1_1.length co23 : Value).ownBlock)) (ZR HO1_2) hg hat); have n3_ := Aside0.mk (blk_grown (ZK BK114) hg (Kd.R_ne HO127.out BK114.out (by decide))); have n4_ := Aside0.mk (blk_grown (ZK BK115) hg (Kd.R_ne HO127.out BK115.out (by decide))); have n5_ := Aside0.mk (hb); have n6_ := Aside0.mk (Kept.of_grown (S := (fun k_ => (P1_1_ k_ ∨ P1_2_ k_) ∨ k_ = g)) hg (by exact Zq12) (fun k_ e_ => Or.imp_left Or.inl ((HO127.out.1 k_ e_).1.1.1))); have n7_ := Aside0.mk (ho); clear HI0 HO1_1 HO1_2 BK114 BK115 HB HK HO127; have HI0 := n0_; have HO1_1 := n1_; have HO1_2 := n2_; have BK114 := n3_; have BK115 := n4_; have HB := n5_; have HK := n6_; have HO130 := n7_; clear n0_ n1_ n2_ n3_ n4_ n5_ n6_ n7_; clear ho hb hg hat; obtain ⟨Ao33, co33, eo33⟩ := Kd.R_slice HO130.out; subst eo33; obtain ⟨hcz34_0, hcz34_1, hcz34_2, hfz34_0, hfz34_1, hfz34_2⟩ := ZD3 BK114; have hnb35 := NB115_0.out; have hnc35 := NB0_115.out; obtain ⟨hcz36_0, hcz36_1, hcz36_2, hfz36_0, hfz36_1, hfz36_2⟩ := ZD3 BK115))
    refine bodyPost_ret (results_cell_row rfl _ _ gb115 26 #[.int .i64 a1_0, .slice Ao23 l1_1.length co23, .slice Ao33 y128.length co33] (0, 0) _ rfl (by refine ZS ?_; refine blk_put (cs := #[.int .i64 a1_0, .slice Ao23 l1_1.length co23, .slice none 0 0]) ?_ 2 _ rfl; refine ZS ?_; refine blk_put (cs := #[.int .i64 a1_0, .slice none 0 0, .slice none 0 0]) ?_ 1 _ rfl; refine ZS ?_; refine blk_put (cs := #[.int .i64 0, .slice none 0 0, .slice none 0 0]) ?_ 0 _ rfl; refine ZS ?_; refine blk_far ?_ NB115_114.out _; refine ZS ?_; exact BK115.out) Try.underlying26 rfl (by kernel_rfl)) rfl ?_
    exact ⟨_, _, ZqR, by refine ZQ ?_; exact Kd.R_mono (Kd.R_far (p := ⟨gb115, 2, none⟩) (Kd.R_far (p := ⟨gb115, 1, none⟩) (Kd.R_far (p := ⟨gb115, 0, none⟩) (Kd.R_far (p := ⟨gb114, 2, none⟩) (Kd.R_types (Kd.R_types HO1_1.out BK114.out (by decide)) BK115.out (by decide)) (fun _ hk => hk.1.2) (.slice Ao33 y128.length co33)) (fun _ hk => hk.2) (.int .i64 a1_0)) (fun _ hk => hk.2) (.slice Ao23 l1_1.length co23)) (fun _ hk => hk.2) (.slice Ao33 y128.length co33)) (fun _ hk => (And.intro (hk.1.1.1.1) (hk.1.1.2))), by refine ZQ ?_; exact Kd.R_mono (Kd.R_far (p := ⟨gb115, 2, none⟩) (Kd.R_far (p := ⟨gb115, 1, none⟩) (Kd.R_far (p := ⟨gb115, 0, none⟩) (Kd.R_far (p := ⟨gb114, 2, none⟩) (Kd.R_types (Kd.R_types HO130.out BK114.out (by decide)) BK115.out (by decide)) (fun _ hk => hk.1.2) (.slice Ao33 y128.length co33)) (fun _ hk => hk.2) (.int .i64 a1_0)) (fun _ hk => hk.2) (.slice Ao23 l1_1.length co23)) (fun _ hk => hk.2) (.slice Ao33 y128.length co33)) (fun _ hk => (And.intro (hk.1.1.1) (hk.1.1.2.1))), by exact Zq10, by exact Zq11, by exact Zq12⟩
   ·rw [if_neg c22] at H
    exact absurd H (by simp)
  ·rw [if_neg c20] at H
   have c20b0 : (t116 == 1) = false := beq_eq_false_iff_ne.mpr c20
   have c20b1 : (t116 != 1) = true := bne_iff_ne.mpr c20
   by_cases c37 : t116 = 2
   ·rw [if_pos c37] at H
    have c37b0 : (t116 == 2) = true := beq_iff_eq.mpr c37
    have c37b1 : (t116 != 2) = false := bne_eq_false_iff_eq.mpr c37
    clear c37
    replace H := Option.bind_eq_some_iff.mp H
    obtain ⟨t131, A380, H⟩ := H
    try dsimp only at H
    have A38 := Aside0.mk A380
    clear A380
    replace H := Option.bind_eq_some_iff.mp H
    obtain ⟨⟨t134, t135, t136⟩, A390, H⟩ := H
    try dsimp only at H
    have A39 := Aside0.mk A390
    clear A390
    obtain ⟨y137, hy137⟩ : ∃ y_ : List Int, y_ = (([0, a1_0] : List Int)) := ⟨_, rfl⟩
    replace H : ((spec_l01Pick.f s0_0 t135 t136 y137).bind fun bt140 => (if 0 ≤ t134 then (if t134 < (t131.length : Int) then (some (a1_0, l1_1, (t131.set (t134 : Int).toNat bt140.1), bt140.2.1, bt140.2.2)) else (none)) else (none))) = some (r1, r2, r3, r4, r5) := by have hq_ := hy137; exact ZqH
    have Ny137 := Aside0.mk hy137
    clear hy137
    replace H := Option.bind_eq_some_iff.mp H
    obtain ⟨⟨t140, t141, t142⟩, A400, H⟩ := H
    try dsimp only at H
    have A40 := Aside0.mk A400
    clear A400
    by_cases c41 : 0 ≤ t134
    ·rw [if_pos c41] at H
     have c41b0 : decide (0 ≤ t134) = true := decide_eq_true c41
     clear c41
     by_cases c42 : t134 < (t131.length : Int)
     ·rw [if_pos c42] at H
      have c42b0 : decide (t134 < (t131.length : Int)) = true := decide_eq_true c42
      clear c42
      obtain ⟨y143, hy143⟩ : ∃ y_ : List Int, y_ = (t131.set (t134 : Int).toNat t140) := ⟨_, rfl⟩
      replace H : (some (a1_0, l1_1, y143, t141, t142)) = some (r1, r2, r3, r4, r5) := by have hq_ := hy143; exact ZqH
      have Ny143 := Aside0.mk hy143
      clear hy143
      simp only [Option.some.injEq, Prod.mk.injEq] at H
      obtain ⟨rfl, rfl, rfl, rfl, rfl⟩ := H
      obtain ⟨Ao44, co44, eo44⟩ := Kd.R_slice HO1_1.out
      subst eo44
      obtain ⟨Ao45, co45, eo45⟩ := Kd.R_slice HO1_2.out
      subst eo45
      go_enter Try.func226, Try.ntmps226
      try go_wp2_with (first | ((with_reducible refine gate_dst (N := 3) rfl ?_); refine box_event ?hg (N := 3) ?hd (cs := #[.int .i64 a1_0, .slice Ao44 l1_1.length co44, .slice Ao45 l1_2.length co45]) (t := 26) ?hr ?_; (case hd => rfl); (case hg => rfl); (case hr => exact ZqT); intro gb114 hg w46 hbox hb; have n0_ := Aside0.mk (Kd.R_below (ZR HO1_1) hb); have n1_ := Aside0.mk (Kd.R_below (ZR HO1_2) hb); have n2_ := Aside0.mk (IsS176.below (by exact Zq3) hb); have n3_ := Aside0.mk (Kept.below (S := (fun k_ => (P1_1_ k_ ∨ P1_2_ k_) ∨ k_ = g)) (by exact Zq6) hb); have n4_ := Aside0.mk (below_step (by exact Zq4) hb); have n5_ := Aside0.mk (hbox); have n6_ := Aside0.mk ((by rw [hg]; exact (by first | exact HK.out.1 | exact (show Kept w _ (fun k_ => (P1_1_ k_ ∨ P1_2_ k_) ∨ k_ = g) from by exact Zq6).1) : w.heap.size ≤ gb114)); have n7_ := Aside0.mk ((by rw [hg]; exact (below_size (by exact Zq4)) : w0.heap.size ≤ gb114)); have n8_ := Aside0.mk ((by rw [hg]; exact Nat.ne_of_lt (IsS176.lt (show IsS176 w0 _ g s0_0 s0_1 s0_2 from by exact Zq3)) : g ≠ gb114)); have n9_ := Aside0.mk ((by rw [hg]; exact Nat.ne_of_gt (IsS176.lt (show IsS176 w0 _ g s0_0 s0_1 s0_2 from by exact Zq3)) : gb114 ≠ g)); clear HO1_1 HO1_2 HI0 HK HB; have HO1_1 := n0_; have HO1_2 := n1_; have HI0 := n2_; have HK := n3_; have HB := n4_; have BK114 := n5_; have GW114 := n6_; have GE114 := n7_; have NB0_114 := n8_; have NB114_0 := n9_; clear n0_ n1_ n2_ n3_ n4_ n5_ n6_ n7_ n8_ n9_; clear hb hbox hg) | ((with_reducible refine gate_dst (N := 4) rfl ?_); refine box_event ?hg (N := 4) ?hd (cs := #[.int .i64 0, .slice none 0 0, .slice none 0 0]) (t := 26) ?hr ?_; (case hd => rfl); (case hg => rfl); (case hr => exact ZqT); intro gb115 hg w47 hbox hb; have n0_ := Aside0.mk (Kd.R_below (ZR HO1_1) hb); have n1_ := Aside0.mk (Kd.R_below (ZR HO1_2) hb); have n2_ := Aside0.mk (IsS176.below (by exact Zq7) hb); have n3_ := ZL BK114 hb; have n4_ := Aside0.mk (Kept.below (S := (fun k_ => (P1_1_ k_ ∨ P1_2_ k_) ∨ k_ = g)) (by exact Zq8) hb); have n5_ := Aside0.mk (below_step (by exact Zq9) hb); have n6_ := Aside0.mk (hbox); have n7_ := Aside0.mk ((by rw [hg]; exact (by first | exact HK.out.1 | exact (show Kept w _ (fun k_ => (P1_1_ k_ ∨ P1_2_ k_) ∨ k_ = g) from by exact Zq8).1) : w.heap.size ≤ gb115)); have n8_ := Aside0.mk ((by rw [hg]; exact (below_size (by exact Zq9)) : w0.heap.size ≤ gb115)); have n9_ := Aside0.mk ((ZN hg BK114 : gb114 ≠ gb115)); have n10_ := Aside0.mk ((ZM hg BK114 : gb115 ≠ gb114)); have n11_ := Aside0.mk ((by rw [hg]; exact Nat.ne_of_lt (IsS176.lt (show IsS176 w0 _ g s0_0 s0_1 s0_2 from by exact Zq7)) : g ≠ gb115)); have n12_ := Aside0.mk ((by rw [hg]; exact Nat.ne_of_gt (IsS176.lt (show IsS176 w0 _ g s0_0 s0_1 s0_2 from by exact Zq7)) : gb115 ≠ g)); clear HO1_1 HO1_2 HI0 BK114 HK HB; have HO1_1 := n0_; have HO1_2 := n1_; have HI0 := n2_; have BK114 := n3_; have HK := n4_; have HB := n5_; have BK115 := n6_; have GW115 := n7_; have GE115 := n8_; have NB114_115 := n9_; have NB115_114 := n10_; have NB0_115 := n11_; have NB115_0 := n12_; clear n0_ n1_ n2_ n3_ n4_ n5_ n6_ n7_ n8_ n9_ n10_ n11_ n12_; clear hb hbox hg) | ((with_reducible refine gate_callee (f := 122) rfl ?_); refine goesL_ (some 6) rfl rfl Try.func122 (by kernel_rfl) rfl #[.pointer (some ⟨g, 0, none⟩), .int .i64 40] rfl ZA ?_; (with_reducible refine (spec_l01Next.calls g s0_0 s0_1 s0_2 40 t116 t117 t118 w0 _ ?side1 ?side2 A3.out).mono ?_); (case side1 => exact Zq10); (case side2 => exact Zq11); rintro e w48 ⟨rfl, hi, hb, hk⟩; refine ⟨_, rfl, ?_⟩; have n0_ := Aside0.mk (Kd.R_mono (Kd.R_keep (IsS176.apart (show IsS176 w0 _ g s0_0 s0_1 s0_2 from by exact Zq10) (ZR HO1_1) (by decide)) hk (fun _ h => h.2)) (fun _ h => h.1)); have n1_ := Aside0.mk (Kd.R_mono (Kd.R_keep (IsS176.apart (show IsS176 w0 _ g s0_0 s0_1 s0_2 from by exact Zq10) (ZR HO1_2) (by decide)) hk (fun _ h => h.2)) (fun _ h => h.1)); have n2_ := Aside0.mk (KeepBut.blk hk (g' := gb114) (o := .cells #[.int .i64 a1_0, .slice Ao44 l1_1.length co44, .slice Ao45 l1_2.length co45] 26 (0, 0)) (ZK BK114) NB114_0.out (by simp)); have n3_ := Aside0.mk (KeepBut.blk hk (g' := gb115) (o := .cells #[.int .i64 0, .slice none 0 0, .slice none 0 0] 26 (0, 0)) (ZK BK115) NB115_0.out (by simp)); have n4_ := Aside0.mk (Kept.of_keep (S := (fun k_ => (P1_1_ k_ ∨ P1_2_ k_) ∨ k_ = g)) (by exact Zq12) hk (.inl (.inr rfl))); have n5_ := Aside0.mk (hb); have n6_ := Aside0.mk (hi); clear HO1_1 HO1_2 BK114 BK115 HK HB HI0; have HO1_1 := n0_; have HO1_2 := n1_; have BK114 := n2_; have BK115 := n3_; have HK := n4_; have HB := n5_; have HI0 := n6_; clear n0_ n1_ n2_ n3_ n4_ n5_ n6_; (try clear hb); (try clear hk); (try clear hi); have hnb49 := NB114_115.out; have hnc49 := NB115_114.out; have hnb50 := NB114_0.out; have hnc50 := NB0_114.out; obtain ⟨hcz51_0, hcz51_1, hcz51_2, hfz51_0, hfz51_1, hfz51_2⟩ := ZD3 BK114) | ((with_reducible refine gate_callee (f := 155) rfl ?_); refine goesL_ (some 25) rfl rfl Try.func155 (by kernel_rfl) rfl #[.slice Ao45 l1_2.length co45] rfl ZA ?_; (with_reducible refine (spec_l01Own.calls _ _ l1_2 t131 _ ?side1 ?side2 A38.out).mono ?_); (case side1 => exact ZqC ((Kd.R_reads' HO1_2.out).2.2)); (case side2 => exact (Kd.R_reads' HO1_2.out).2.1); rintro e w52 ⟨v132, rfl, ho0, hb⟩; refine ⟨_, rfl, ?_⟩; have n0_ := Aside0.mk (Kd.R_elder' (ZR HO1_1) (Kd.R_base ho0) hb); have n1_ := Aside0.mk (Kd.R_elder' (ZR HO1_2) (Kd.R_base ho0) hb); have n2_ := Aside0.mk (Kd.R_lower (Kd.R_new' (Kd.R_new' (Kd.R_newM (M := fun k_ => ((P1_1_ k_ ∨ P1_2_ k_) ∨ w.heap.size ≤ k_)) ho0 (by first | exact HK.out.1 | exact (show Kept w _ (fun k_ => (P1_1_ k_ ∨ P1_2_ k_) ∨ k_ = g) from by exact Zq12).1) (fun k_ h_ => .inr h_)) (Kd.R_lt (ZR HO1_1))) (Kd.R_lt (ZR HO1_2))) (below_size (by exact Zq11))); have n3_ := Aside0.mk (IsS176.below (by exact Zq10) hb); have n4_ := ZL BK114 hb; have n5_ := ZL BK115 hb; have n6_ := Aside0.mk (Kept.below (S := (fun k_ => (P1_1_ k_ ∨ P1_2_ k_) ∨ k_ = g)) (by exact Zq12) hb); have n7_ := Aside0.mk (below_step (by exact Zq11) hb); clear HO1_1 HO1_2 HI0 BK114 BK115 HK HB; have HO1_1 := n0_; have HO1_2 := n1_; have HO133 := n2_; have HI0 := n3_; have BK114 := n4_; have BK115 := n5_; have HK := n6_; have HB := n7_; clear n0_ n1_ n2_ n3_ n4_ n5_ n6_ n7_; (try clear hb); (try clear ho0); obtain ⟨Ao53, co53, eo53⟩ := Kd.R_slice HO133.out; subst eo53; obtain ⟨hcz54_0, hcz54_1, hcz54_2, hfz54_0, hfz54_1, hfz54_2⟩ := ZD3 BK114))
      have n0_ : Aside0 (Kd.R (Kd.int .i64) 2 (w52.setCell ⟨gb114, 2, none⟩ (.slice Ao53 t131.length co53)) w0.heap.size (fun k_ => ((P1_1_ k_ ∨ P1_2_ k_) ∨ w.heap.size ≤ k_) ∧ some k_ ≠ (.slice Ao45 l1_2.length co45 : Value).ownBlock ∧ some k_ ≠ (.slice Ao53 t131.length co53 : Value).ownBlock) (.slice Ao44 l1_1.length co44) l1_1) := ⟨by refine ZQ ?_; exact Kd.R_mono (Kd.R_far (p := ⟨gb114, 2, none⟩) (Kd.R_types HO1_1.out BK114.out (by decide)) (fun _ hk => hk.2) (.slice Ao53 t131.length co53)) (fun _ hk => (And.intro (hk.1.1.1) ((And.intro (hk.1.1.2) (hk.1.2)))))⟩
      have n1_ : Aside0 (Kd.R (Kd.int .i64) 2 (w52.setCell ⟨gb114, 2, none⟩ (.slice Ao53 t131.length co53)) w0.heap.size (fun k_ => ((P1_1_ k_ ∨ P1_2_ k_) ∨ w.heap.size ≤ k_) ∧ some k_ ≠ (.slice Ao44 l1_1.length co44 : Value).ownBlock ∧ some k_ ≠ (.slice Ao53 t131.length co53 : Value).ownBlock) (.slice Ao45 l1_2.length co45) l1_2) := ⟨by refine ZQ ?_; exact Kd.R_mono (Kd.R_far (p := ⟨gb114, 2, none⟩) (Kd.R_types HO1_2.out BK114.out (by decide)) (fun _ hk => hk.2) (.slice Ao53 t131.length co53)) (fun _ hk => (And.intro (hk.1.1.1) ((And.intro (hk.1.1.2) (hk.1.2)))))⟩
      have n2_ : Aside0 (Kd.R (Kd.int .i64) 2 (w52.setCell ⟨gb114, 2, none⟩ (.slice Ao53 t131.length co53)) w0.heap.size (fun k_ => ((P1_1_ k_ ∨ P1_2_ k_) ∨ w.heap.size ≤ k_) ∧ some k_ ≠ (.slice Ao44 l1_1.length co44 : Value).ownBlock ∧ some k_ ≠ (.slice Ao45 l1_2.length co45 : Value).ownBlock) (.slice Ao53 t131.length co53) t131) := ⟨by refine ZQ ?_; exact Kd.R_mono (Kd.R_far (p := ⟨gb114, 2, none⟩) (Kd.R_types HO133.out BK114.out (by decide)) (fun _ hk => hk.2) (.slice Ao53 t131.length co53)) (fun _ hk => (And.intro (hk.1.1.1.1) ((And.intro (hk.1.1.2) (hk.1.2)))))⟩
      have n3_ : Aside0 ((w52.setCell ⟨gb114, 2, none⟩ (.slice Ao53 t131.length co53)).heap[gb114]? = some (.cells #[.int .i64 a1_0, .slice Ao44 l1_1.length co44, .slice Ao53 t131.length co53] 26 (0, 0))) := ⟨by refine ZS ?_; refine blk_put (cs := #[.int .i64 a1_0, .slice Ao44 l1_1.length co44, .slice Ao45 l1_2.length co45]) ?_ 2 _ rfl; refine ZS ?_; exact BK114.out⟩
      have n4_ : Aside0 ((w52.setCell ⟨gb114, 2, none⟩ (.slice Ao53 t131.length co53)).heap[gb115]? = some (.cells #[.int .i64 0, .slice none 0 0, .slice none 0 0] 26 (0, 0))) := ⟨by refine ZS ?_; refine blk_far ?_ NB115_114.out _; refine ZS ?_; exact BK115.out⟩
      have n5_ : Aside0 (IsS176 w0 (w52.setCell ⟨gb114, 2, none⟩ (.slice Ao53 t131.length co53)) g s0_0 t117 t118) := ⟨by exact Zq10⟩
      have n6_ : Aside0 (Kept w (w52.setCell ⟨gb114, 2, none⟩ (.slice Ao53 t131.length co53)) (fun k_ => (P1_1_ k_ ∨ P1_2_ k_) ∨ k_ = g)) := ⟨by exact Zq12⟩
      have n7_ : Aside0 (Below w0.heap.size w0 (w52.setCell ⟨gb114, 2, none⟩ (.slice Ao53 t131.length co53))) := ⟨by exact Zq11⟩
      (try clear HO1_1)
      (try clear HO1_2)
      (try clear HO133)
      (try clear BK114)
      (try clear BK115)
      (try clear HI0)
      (try clear HK)
      (try clear HB)
      generalize (w52.setCell ⟨gb114, 2, none⟩ (.slice Ao53 t131.length co53)) = w55 at n0_ n1_ n2_ n3_ n4_ n5_ n6_ n7_ ⊢
      have HO1_1 := n0_
      have HO1_2 := n1_
      have HO133 := n2_
      have BK114 := n3_
      have BK115 := n4_
      have HI0 := n5_
      have HK := n6_
      have HB := n7_
      clear n0_ n1_ n2_ n3_ n4_ n5_ n6_ n7_
      have n0_ := Aside0.mk (Kd.R_drew HO1_1.out)
      have n1_ := Aside0.mk (Kd.R_drew HO1_2.out)
      have n2_ := Aside0.mk (Kd.R_drew HO133.out)
      have n3_ := Aside0.mk (blk_drew BK114.out)
      have n4_ := Aside0.mk (blk_drew BK115.out)
      have n5_ := Aside0.mk (IsS176.drew HI0.out)
      have n6_ := Aside0.mk (Kept.drew HK.out)
      have n7_ := Aside0.mk (below_drew1 HB.out)
      clear HO1_1
      clear HO1_2
      clear HO133
      clear BK114
      clear BK115
      clear HI0
      clear HK
      clear HB
      have HO1_1 := n0_
      have HO1_2 := n1_
      have HO133 := n2_
      have BK114 := n3_
      have BK115 := n4_
      have HI0 := n5_
      have HK := n6_
      have HB := n7_
      clear n0_ n1_ n2_ n3_ n4_ n5_ n6_ n7_
      refine start_ (n := 14) (S := fun w' => w'.cell? ⟨gb114, 0, none⟩ = some (.int .i64 a1_0) ∧ w'.cell? ⟨gb114, 1, none⟩ = some (.slice Ao44 l1_1.length co44) ∧ w'.cell? ⟨gb114, 2, none⟩ = some (.slice Ao53 t131.length co53)) (ds := [13]) #[false, false, false, false, false, false, false, false, false, false, false, false, false, false] (by kernel_rfl) rfl rfl ⟨(blk_cell BK114.out 0).trans rfl, (blk_cell BK114.out 1).trans rfl, (blk_cell BK114.out 2).trans rfl⟩ (fun hHeld => ?_); refine with_tabW spec_l03Bad.tab8 spec_l03Bad.bits8 (fun HT_ HW_ => ?_)
      generalize w55.drew = w56 at HO1_1 HO1_2 HO133 BK114 BK115 HI0 HK HB hHeld ⊢
      refine Zpt 0 (some 27) (h := ?_)
      refine Zpt 2 (some 29) (h := ?_)
      refine Zpt 3 (some 30) (h := ?_)
      refine Zpt 7 (some 34) (h := ?_)
      refine Zpt 8 (some 35) (h := ?_)
      refine ZtW3 1 (some 28) hHeld (h := ?_)
      refine ZtW3 4 (some 31) hHeld (h := ?_)
      refine Zpt 5 (some 32) (h := ?_)
      refine ZtW3 9 (some 36) hHeld (h := ?_)
      refine join_ (σ := Value) 3 #[true, true, true, true, true, true, true, true, true, true, true, false, false, false] (fun s_ => [(33, .int .i64 t134), (37, s_)]) (fun s_ w' => (w'.cell? ⟨gb114, 0, none⟩ = some (.int .i64 a1_0) ∧ w'.cell? ⟨gb114, 1, none⟩ = some (.slice Ao44 l1_1.length co44) ∧ w'.cell? ⟨gb114, 2, none⟩ = some (.slice Ao53 t131.length co53)) ∧ (Kd.R (Kd.int .i64) 2 w' w0.heap.size (fun k_ => ((P1_1_ k_ ∨ P1_2_ k_) ∨ w.heap.size ≤ k_) ∧ some k_ ≠ (s_ : Value).ownBlock ∧ some k_ ≠ (.slice Ao44 l1_1.length co44 : Value).ownBlock ∧ some k_ ≠ (.slice Ao45 l1_2.length co45 : Value).ownBlock) (.slice Ao53 t131.length co53) t131) ∧ (Kd.R (Kd.int .i64) 2 w' w0.heap.size (fun k_ => ((P1_1_ k_ ∨ P1_2_ k_) ∨ w.heap.size ≤ k_) ∧ some k_ ≠ (.slice Ao53 t131.length co53 : Value).ownBlock ∧ some k_ ≠ (.slice Ao44 l1_1.length co44 : Value).ownBlock ∧ some k_ ≠ (.slice Ao45 l1_2.length co45 : Value).ownBlock) s_ y137) ∧ (Kd.R (Kd.int .i64) 2 w' w0.heap.size (fun k_ => ((P1_1_ k_ ∨ P1_2_ k_) ∨ w.heap.size ≤ k_) ∧ some k_ ≠ (.slice Ao53 t131.length co53 : Value).ownBlock ∧ some k_ ≠ (s_ : Value).ownBlock ∧ some k_ ≠ (.slice Ao45 l1_2.length co45 : Value).ownBlock) (.slice Ao44 l1_1.length co44) l1_1) ∧ (Kd.R (Kd.int .i64) 2 w' w0.heap.size (fun k_ => ((P1_1_ k_ ∨ P1_2_ k_) ∨ w.heap.size ≤ k_) ∧ some k_ ≠ (.slice Ao53 t131.length co53 : Value).ownBlock ∧ some k_ ≠ (s_ : Value).ownBlock ∧ some k_ ≠ (.slice Ao44 l1_1.length co44 : Value).ownBlock) (.slice Ao45 l1_2.length co45) l1_2) ∧ (w'.heap[gb114]? = some (.cells #[.int .i64 a1_0, .slice Ao44 l1_1.length co44, .slice Ao53 t131.length co53] 26 (0, 0))) ∧ (w'.heap[gb115]? = some (.cells #[.int .i64 0, .slice none 0 0, .slice none 0 0] 26 (0, 0))) ∧ (IsS176 w0 w' g s0_0 t135 t136) ∧ (Kept w w' (fun k_ => (P1_1_ k_ ∨ P1_2_ k_) ∨ k_ = g)) ∧ (Below w0.heap.size w0 w')) ?_ ?_
      rotate_left
      ·intro hCont
       refine two_ (i := 6) (j := 10) (Ni := some 33) (Nj := some 37) #[true, true, true, true, true, true, true, true, true, true, false, false, false, false] #[true, true, true, true, true, true, false, true, true, true, true, false, false, false] rfl rfl rfl rfl (two_of HT_.out (by kernel_rfl)) (by decide) (by decide) (fun K hK => ?_) (fun K hK => ?_)
       ·skip
        refine goes_ Try.func122 (by kernel_rfl) rfl #[.pointer (some ⟨g, 0, none⟩), .int .i64 (t131.length : Int)] (by rfl) rfl rfl ZA ?_
        with_reducible refine (spec_l01Next.calls g s0_0 t117 t118 (t131.length : Int) t134 t135 t136 w0 _ ?side1 ?side2 A39.out).mono ?_
        (case side1 => exact Zq10)
        (case side2 => exact Zq11)
        rintro e w57 ⟨rfl, hi, hb, hk⟩
        refine ⟨_, rfl, ?_⟩
        have n0_ := Aside0.mk (Kd.R_mono (Kd.R_keep (IsS176.apart (show IsS176 w0 _ g s0_0 t117 t118 from by exact Zq10) (ZR HO1_1) (by decide)) hk (fun _ h => h.2)) (fun _ h => h.1))
        have n1_ := Aside0.mk (Kd.R_mono (Kd.R_keep (IsS176.apart (show IsS176 w0 _ g s0_0 t117 t118 from by exact Zq10) (ZR HO1_2) (by decide)) hk (fun _ h => h.2)) (fun _ h => h.1))
        have n2_ := Aside0.mk (KeepBut.blk hk (g' := gb114) (o := .cells #[.int .i64 a1_0, .slice Ao44 l1_1.length co44, .slice Ao53 t131.length co53] 26 (0, 0)) (ZK BK114) NB114_0.out (by simp))
        have n3_ := Aside0.mk (KeepBut.blk hk (g' := gb115) (o := .cells #[.int .i64 0, .slice none 0 0, .slice none 0 0] 26 (0, 0)) (ZK BK115) NB115_0.out (by simp))
        have n4_ := Aside0.mk (Kd.R_mono (Kd.R_keep (IsS176.apart (show IsS176 w0 _ g s0_0 t117 t118 from by exact Zq10) (ZR HO133) (by decide)) hk (fun _ h => h.2)) (fun _ h => h.1))
        have n5_ := Aside0.mk (Kept.of_keep (S := (fun k_ => (P1_1_ k_ ∨ P1_2_ k_) ∨ k_ = g)) (by exact Zq12) hk (.inl (.inr rfl)))
        have n6_ := Aside0.mk (hb)
        have n7_ := Aside0.mk (hi)
        clear HO1_1
        clear HO1_2
        clear BK114
        clear BK115
        clear HO133
        clear HK
        clear HB
        clear HI0
        have HO1_1 := n0_
        have HO1_2 := n1_
        have BK114 := n2_
        have BK115 := n3_
        have HO133 := n4_
        have HK := n5_
        have HB := n6_
        have HI0 := n7_
        clear n0_ n1_ n2_ n3_ n4_ n5_ n6_ n7_
        (try clear hb)
        (try clear hb2)
        (try clear hk)
        (try clear hi)
        refine hK.out _ _ ⟨(blk_cell BK114.out 0).trans rfl, (blk_cell BK114.out 1).trans rfl, (blk_cell BK114.out 2).trans rfl⟩ (fun hHeld => ?_)
        clear hK K
        refine norm_ (a' := ?_) ?_ ?_
        rotate_left
        ·show Act.put _ (some 33) _ = _
         simp only [Act.put, List.setIfInBounds_toArray, List.set_cons_zero, List.set_cons_succ, i64_w, i32_w]
         rfl
        refine one_ (i := 10) (N := some 37) #[true, true, true, true, true, true, true, true, true, true, true, false, false, false] rfl rfl (one_of HT_.out (by kernel_rfl)) (by decide) (fun K hK => ?_)
        refine Kd.R_lit_step (Kd.int .i64) _ 2 ?hg (N := 37) ?hd (xs := ([0, a1_0] : List Int)) (inner := [.int .i64 0, .int .i64 a1_0]) (ok := fun _ => True) (okp := fun _ => True) ?hr ?hp (fun _ hk => hk) trivial (Below.refl _ _) (Nat.le_refl _) (by simp) ?_; (case hd => rfl); (case hg => rfl); (case hr => exact ZqT); (case hp => exact (Reps.one (show Kd.M (Kd.int .i64) _ _ _ 0 [.int .i64 0] from rfl) (Reps.one (show Kd.M (Kd.int .i64) _ _ _ a1_0 [.int .i64 a1_0] from rfl) (Reps.none _ _))))
        intro v138 w58 ho59 hb hg_ hnew_
        clear hg_ hnew_
        (first | rw [← Ny137.out] at ho59 | (simp only [Int.reduceToNat] at ho59; rw [← Ny137.out] at ho59))
        have n0_ := Aside0.mk (Kd.R_elder' (ZR HO1_1) (Kd.R_base ho59) hb)
        have n1_ := Aside0.mk (Kd.R_elder' (ZR HO1_2) (Kd.R_base ho59) hb)
        have n2_ := Aside0.mk (Kd.R_elder' (ZR HO133) (Kd.R_base ho59) hb)
        have n3_ := Aside0.mk (Kd.R_lower (Kd.R_new' (Kd.R_new' (Kd.R_new' (Kd.R_newM (M := fun k_ => ((P1_1_ k_ ∨ P1_2_ k_) ∨ w.heap.size ≤ k_)) ho59 (by first | exact HK.out.1 | exact (show Kept w _ (fun k_ => (P1_1_ k_ ∨ P1_2_ k_) ∨ k_ = g) from by exact Zq12).1) (fun k_ h_ => .inr h_)) (Kd.R_lt (ZR HO1_1))) (Kd.R_lt (ZR HO1_2))) (Kd.R_lt (ZR HO133))) (below_size (by exact Zq11)))
        have n4_ := Aside0.mk (IsS176.below (by exact Zq10) hb)
        have n5_ := ZL BK114 hb
        have n6_ := ZL BK115 hb
        have n7_ := Aside0.mk (Kept.below (S := (fun k_ => (P1_1_ k_ ∨ P1_2_ k_) ∨ k_ = g)) (by exact Zq12) hb)
        have n8_ := Aside0.mk (below_step (by exact Zq11) hb)
        clear HO1_1
        clear HO1_2
        clear HO133
        clear HI0
        clear BK114
        clear BK115
        clear HK
        clear HB
        have HO1_1 := n0_
        have HO1_2 := n1_
        have HO133 := n2_
        have HO139 := n3_
        have HI0 := n4_
        have BK114 := n5_
        have BK115 := n6_
        have HK := n7_
        have HB := n8_
        clear n0_ n1_ n2_ n3_ n4_ n5_ n6_ n7_ n8_
        clear hb ho59
        refine hK.out _ _ ⟨(blk_cell BK114.out 0).trans rfl, (blk_cell BK114.out 1).trans rfl, (blk_cell BK114.out 2).trans rfl⟩ (fun hHeld => ?_)
        clear hK K
        refine norm_ (a' := ?_) ?_ ?_
        rotate_left
        ·show Act.put _ (some 37) _ = _
         simp only [Act.put, List.setIfInBounds_toArray, List.set_cons_zero, List.set_cons_succ, i64_w, i32_w]
         rfl
        exact norm_ (by simp only [putAll, Act.put, List.setIfInBounds_toArray, List.set_cons_zero, List.set_cons_succ]) (hCont (v138) _ ⟨hHeld, (by refine ZQ ?_; exact Kd.R_mono HO133.out (fun _ hk => (And.intro (hk.1.1) ((And.intro (hk.2) ((And.intro (hk.1.2.1) (hk.1.2.2)))))))), (by refine ZQ ?_; exact Kd.R_mono HO139.out (fun _ hk => (And.intro (hk.1.1.1.1) ((And.intro (hk.2) ((And.intro (hk.1.1.2) (hk.1.2)))))))), (by refine ZQ ?_; exact Kd.R_mono HO1_1.out (fun _ hk => (And.intro (hk.1.1) ((And.intro (hk.1.2.2) ((And.intro (hk.2) (hk.1.2.1)))))))), (by refine ZQ ?_; exact Kd.R_mono HO1_2.out (fun _ hk => (And.intro (hk.1.1) ((And.intro (hk.1.2.2) ((And.intro (hk.2) (hk.1.2.1)))))))), (ZK BK114), (ZK BK115), (by exact Zq10), (by exact Zq12), (by exact Zq11)⟩)
       ·skip
        refine Kd.R_lit_step (Kd.int .i64) _ 2 ?hg (N := 37) ?hd (xs := ([0, a1_0] : List Int)) (inner := [.int .i64 0, .int .i64 a1_0]) (ok := fun _ => True) (okp := fun _ => True) ?hr ?hp (fun _ hk => hk) trivial (Below.refl _ _) (Nat.le_refl _) (by simp) ?_; (case hd => rfl); (case hg => rfl); (case hr => exact ZqT); (case hp => exact (Reps.one (show Kd.M (Kd.int .i64) _ _ _ 0 [.int .i64 0] from rfl) (Reps.one (show Kd.M (Kd.int .i64) _ _ _ a1_0 [.int .i64 a1_0] from rfl) (Reps.none _ _))))
        intro v138 w57 ho58 hb hg_ hnew_
        clear hg_ hnew_
        (first | rw [← Ny137.out] at ho58 | (simp only [Int.reduceToNat] at ho58; rw [← Ny137.out] at ho58))
        have n0_ := Aside0.mk (Kd.R_elder' (ZR HO1_1) (Kd.R_base ho58) hb)
        have n1_ := Aside0.mk (Kd.R_elder' (ZR HO1_2) (Kd.R_base ho58) hb)
        have n2_ := Aside0.mk (Kd.R_elder' (ZR HO133) (Kd.R_base ho58) hb)
        have n3_ := Aside0.mk (Kd.R_lower (Kd.R_new' (Kd.R_new' (Kd.R_new' (Kd.R_newM (M := fun k_ => ((P1_1_ k_ ∨ P1_2_ k_) ∨ w.heap.size ≤ k_)) ho58 (by first | exact HK.out.1 | exact (show Kept w _ (fun k_ => (P1_1_ k_ ∨ P1_2_ k_) ∨ k_ = g) from by exact Zq12).1) (fun k_ h_ => .inr h_)) (Kd.R_lt (ZR HO1_1))) (Kd.R_lt (ZR HO1_2))) (Kd.R_lt (ZR HO133))) (below_size (by exact Zq11)))
        have n4_ := Aside0.mk (IsS176.below (by exact Zq10) hb)
        have n5_ := ZL BK114 hb
        have n6_ := ZL BK115 hb
        have n7_ := Aside0.mk (Kept.below (S := (fun k_ => (P1_1_ k_ ∨ P1_2_ k_) ∨ k_ = g)) (by exact Zq12) hb)
        have n8_ := Aside0.mk (below_step (by exact Zq11) hb)
        clear HO1_1
        clear HO1_2
        clear HO133
        clear HI0
        clear BK114
        clear BK115
        clear HK
        clear HB
        have HO1_1 := n0_
        have HO1_2 := n1_
        have HO133 := n2_
        have HO139 := n3_
        have HI0 := n4_
        have BK114 := n5_
        have BK115 := n6_
        have HK := n7_
        have HB := n8_
        clear n0_ n1_ n2_ n3_ n4_ n5_ n6_ n7_ n8_
        clear hb ho58
        refine hK.out _ _ ⟨(blk_cell BK114.out 0).trans rfl, (blk_cell BK114.out 1).trans rfl, (blk_cell BK114.out 2).trans rfl⟩ (fun hHeld => ?_)
        clear hK K
        refine norm_ (a' := ?_) ?_ ?_
        rotate_left
        ·show Act.put _ (some 37) _ = _
         simp only [Act.put, List.setIfInBounds_toArray, List.set_cons_zero, List.set_cons_succ, i64_w, i32_w]
         rfl
        refine one_ (i := 6) (N := some 33) #[true, true, true, true, true, true, true, true, true, true, true, false, false, false] rfl rfl (one_of HT_.out (by kernel_rfl)) (by decide) (fun K hK => ?_)
        refine goes_ Try.func122 (by kernel_rfl) rfl #[.pointer (some ⟨g, 0, none⟩), .int .i64 (t131.length : Int)] (by rfl) rfl rfl ZA ?_
        with_reducible refine (spec_l01Next.calls g s0_0 t117 t118 (t131.length : Int) t134 t135 t136 w0 _ ?side1 ?side2 A39.out).mono ?_
        (case side1 => exact Zq10)
        (case side2 => exact Zq11)
        rintro e w59 ⟨rfl, hi, hb, hk⟩
        refine ⟨_, rfl, ?_⟩
        have n0_ := Aside0.mk (Kd.R_mono (Kd.R_keep (IsS176.apart (show IsS176 w0 _ g s0_0 t117 t118 from by exact Zq10) (ZR HO1_1) (by decide)) hk (fun _ h => h.2)) (fun _ h => h.1))
        have n1_ := Aside0.mk (Kd.R_mono (Kd.R_keep (IsS176.apart (show IsS176 w0 _ g s0_0 t117 t118 from by exact Zq10) (ZR HO1_2) (by decide)) hk (fun _ h => h.2)) (fun _ h => h.1))
        have n2_ := Aside0.mk (KeepBut.blk hk (g' := gb114) (o := .cells #[.int .i64 a1_0, .slice Ao44 l1_1.length co44, .slice Ao53 t131.length co53] 26 (0, 0)) (ZK BK114) NB114_0.out (by simp))
        have n3_ := Aside0.mk (KeepBut.blk hk (g' := gb115) (o := .cells #[.int .i64 0, .slice none 0 0, .slice none 0 0] 26 (0, 0)) (ZK BK115) NB115_0.out (by simp))
        have n4_ := Aside0.mk (Kd.R_mono (Kd.R_keep (IsS176.apart (show IsS176 w0 _ g s0_0 t117 t118 from by exact Zq10) (ZR HO133) (by decide)) hk (fun _ h => h.2)) (fun _ h => h.1))
        have n5_ := Aside0.mk (Kd.R_mono (Kd.R_keep (IsS176.apart (show IsS176 w0 _ g s0_0 t117 t118 from by exact Zq10) (ZR HO139) (by decide)) hk (fun _ h => h.2)) (fun _ h => h.1))
        have n6_ := Aside0.mk (Kept.of_keep (S := (fun k_ => (P1_1_ k_ ∨ P1_2_ k_) ∨ k_ = g)) (by exact Zq12) hk (.inl (.inr rfl)))
        have n7_ := Aside0.mk (hb)
        have n8_ := Aside0.mk (hi)
        clear HO1_1
        clear HO1_2
        clear BK114
        clear BK115
        clear HO133
        clear HO139
        clear HK
        clear HB
        clear HI0
        have HO1_1 := n0_
        have HO1_2 := n1_
        have BK114 := n2_
        have BK115 := n3_
        have HO133 := n4_
        have HO139 := n5_
        have HK := n6_
        have HB := n7_
        have HI0 := n8_
        clear n0_ n1_ n2_ n3_ n4_ n5_ n6_ n7_ n8_
        (try clear hb)
        (try clear hb2)
        (try clear hk)
        (try clear hi)
        refine hK.out _ _ ⟨(blk_cell BK114.out 0).trans rfl, (blk_cell BK114.out 1).trans rfl, (blk_cell BK114.out 2).trans rfl⟩ (fun hHeld => ?_)
        clear hK K
        refine norm_ (a' := ?_) ?_ ?_
        rotate_left
        ·show Act.put _ (some 33) _ = _
         simp only [Act.put, List.setIfInBounds_toArray, List.set_cons_zero, List.set_cons_succ, i64_w, i32_w]
         rfl
        exact norm_ (by simp only [putAll, Act.put, List.setIfInBounds_toArray, List.set_cons_zero, List.set_cons_succ]) (hCont (v138) _ ⟨hHeld, (by refine ZQ ?_; exact Kd.R_mono HO133.out (fun _ hk => (And.intro (hk.1.1) ((And.intro (hk.2) ((And.intro (hk.1.2.1) (hk.1.2.2)))))))), (by refine ZQ ?_; exact Kd.R_mono HO139.out (fun _ hk => (And.intro (hk.1.1.1.1) ((And.intro (hk.2) ((And.intro (hk.1.1.2) (hk.1.2)))))))), (by refine ZQ ?_; exact Kd.R_mono HO1_1.out (fun _ hk => (And.intro (hk.1.1) ((And.intro (hk.1.2.2) ((And.intro (hk.2) (hk.1.2.1)))))))), (by refine ZQ ?_; exact Kd.R_mono HO1_2.out (fun _ hk => (And.intro (hk.1.1) ((And.intro (hk.1.2.2) ((And.intro (hk.2) (hk.1.2.1)))))))), (ZK BK114), (ZK BK115), (by exact Zq10), (by exact Zq12), (by exact Zq11)⟩)
      rintro v138 w60 ⟨hS_, h0_, h1_, h2_, h3_, h4_, h5_, h6_, h7_, h8_⟩
      have n0_ : Aside0 (Kd.R (Kd.int .i64) 2 w60 w0.heap.size (fun k_ => ((P1_1_ k_ ∨ P1_2_ k_) ∨ w.heap.size ≤ k_) ∧ some k_ ≠ (v138 : Value).ownBlock ∧ some k_ ≠ (.slice Ao44 l1_1.length co44 : Value).ownBlock ∧ some k_ ≠ (.slice Ao45 l1_2.length co45 : Value).ownBlock) (.slice Ao53 t131.length co53) t131) := ⟨h0_⟩
      have n1_ : Aside0 (Kd.R (Kd.int .i64) 2 w60 w0.heap.size (fun k_ => ((P1_1_ k_ ∨ P1_2_ k_) ∨ w.heap.size ≤ k_) ∧ some k_ ≠ (.slice Ao53 t131.length co53 : Value).ownBlock ∧ some k_ ≠ (.slice Ao44 l1_1.length co44 : Value).ownBlock ∧ some k_ ≠ (.slice Ao45 l1_2.length co45 : Value).ownBlock) v138 y137) := ⟨h1_⟩
      have n2_ : Aside0 (Kd.R (Kd.int .i64) 2 w60 w0.heap.size (fun k_ => ((P1_1_ k_ ∨ P1_2_ k_) ∨ w.heap.size ≤ k_) ∧ some k_ ≠ (.slice Ao53 t131.length co53 : Value).ownBlock ∧ some k_ ≠ (v138 : Value).ownBlock ∧ some k_ ≠ (.slice Ao45 l1_2.length co45 : Value).ownBlock) (.slice Ao44 l1_1.length co44) l1_1) := ⟨h2_⟩
      have n3_ : Aside0 (Kd.R (Kd.int .i64) 2 w60 w0.heap.size (fun k_ => ((P1_1_ k_ ∨ P1_2_ k_) ∨ w.heap.size ≤ k_) ∧ some k_ ≠ (.slice Ao53 t131.length co53 : Value).ownBlock ∧ some k_ ≠ (v138 : Value).ownBlock ∧ some k_ ≠ (.slice Ao44 l1_1.length co44 : Value).ownBlock) (.slice Ao45 l1_2.length co45) l1_2) := ⟨h3_⟩
      have n4_ : Aside0 (w60.heap[gb114]? = some (.cells #[.int .i64 a1_0, .slice Ao44 l1_1.length co44, .slice Ao53 t131.length co53] 26 (0, 0))) := ⟨h4_⟩
      have n5_ : Aside0 (w60.heap[gb115]? = some (.cells #[.int .i64 0, .slice none 0 0, .slice none 0 0] 26 (0, 0))) := ⟨h5_⟩
      have n6_ : Aside0 (IsS176 w0 w60 g s0_0 t135 t136) := ⟨h6_⟩
      have n7_ : Aside0 (Kept w w60 (fun k_ => (P1_1_ k_ ∨ P1_2_ k_) ∨ k_ = g)) := ⟨h7_⟩
      have n8_ : Aside0 (Below w0.heap.size w0 w60) := ⟨h8_⟩
      clear HO1_1
      clear HO1_2
      clear HO133
      clear BK114
      clear BK115
      clear HI0
      clear HK
      clear HB
      clear h0_ h1_ h2_ h3_ h4_ h5_ h6_ h7_ h8_
      have HO133 := n0_
      have HO139 := n1_
      have HO1_1 := n2_
      have HO1_2 := n3_
      have BK114 := n4_
      have BK115 := n5_
      have HI0 := n6_
      have HK := n7_
      have HB := n8_
      clear n0_ n1_ n2_ n3_ n4_ n5_ n6_ n7_ n8_
      have hHeld : w60.cell? ⟨gb114, 0, none⟩ = some (.int .i64 a1_0) ∧ w60.cell? ⟨gb114, 1, none⟩ = some (.slice Ao44 l1_1.length co44) ∧ w60.cell? ⟨gb114, 2, none⟩ = some (.slice Ao53 t131.length co53) := hS_
      obtain ⟨Ao61, co61, eo61⟩ := Kd.R_slice HO139.out
      (first | subst eo61 | (injection eo61 with f1_ f2_ f3_; have f4_ := f1_.symm; have f5_ := f3_.symm; clear f1_ f2_ f3_; subst f4_; subst f5_))
      refine norm_ (a' := ?_) ?_ ?_
      rotate_left
      ·simp only [putAll, Act.put, List.setIfInBounds_toArray, List.set_cons_zero, List.set_cons_succ]
       rfl
      refine one_ (i := 11) (N := some 38) #[true, true, true, true, true, true, true, true, true, true, true, true, false, false] rfl rfl (one_of HT_.out (by kernel_rfl)) (by decide) (fun K hK => ?_)
      refine goes_ Try.func136 (by kernel_rfl) rfl #[.pointer (some ⟨g, 0, none⟩), .slice Ao61 y137.length co61] (by rfl) rfl rfl ZA ?_
      with_reducible refine (spec_l01Pick.calls g s0_0 t135 t136 _ _ y137 t140 t141 t142 w0 _ ?side1 ?side2 ?side3 ?side4 ?side5 A40.out).mono ?_
      (case side1 => exact Zq10)
      (case side2 => exact Zq11)
      (case side3 => exact ZqC ((Kd.R_reads' HO139.out).2.2))
      (case side4 => exact (Kd.R_reads' HO139.out).2.1)
      (case side5 => exact far_slice (IsS176.own_ne HI0.out HO139.out (by decide)))
      rintro e w62 ⟨rfl, hi, hb, hk⟩
      refine ⟨_, rfl, ?_⟩
      have n0_ := Aside0.mk (Kd.R_mono (Kd.R_keep (IsS176.apart (show IsS176 w0 _ g s0_0 t135 t136 from by exact Zq10) (ZR HO1_1) (by decide)) hk (fun _ h => h.2)) (fun _ h => h.1))
      have n1_ := Aside0.mk (Kd.R_mono (Kd.R_keep (IsS176.apart (show IsS176 w0 _ g s0_0 t135 t136 from by exact Zq10) (ZR HO1_2) (by decide)) hk (fun _ h => h.2)) (fun _ h => h.1))
      have n2_ := Aside0.mk (KeepBut.blk hk (g' := gb114) (o := .cells #[.int .i64 a1_0, .slice Ao44 l1_1.length co44, .slice Ao53 t131.length co53] 26 (0, 0)) (ZK BK114) NB114_0.out (by simp))
      have n3_ := Aside0.mk (KeepBut.blk hk (g' := gb115) (o := .cells #[.int .i64 0, .slice none 0 0, .slice none 0 0] 26 (0, 0)) (ZK BK115) NB115_0.out (by simp))
      have n4_ := Aside0.mk (Kd.R_mono (Kd.R_keep (IsS176.apart (show IsS176 w0 _ g s0_0 t135 t136 from by exact Zq10) (ZR HO133) (by decide)) hk (fun _ h => h.2)) (fun _ h => h.1))
      have n5_ := Aside0.mk (Kd.R_mono (Kd.R_keep (IsS176.apart (show IsS176 w0 _ g s0_0 t135 t136 from by exact Zq10) (ZR HO139) (by decide)) hk (fun _ h => h.2)) (fun _ h => h.1))
      have n6_ := Aside0.mk (Kept.of_keep (S := (fun k_ => (P1_1_ k_ ∨ P1_2_ k_) ∨ k_ = g)) (by exact Zq12) hk (.inl (.inr rfl)))
      have n7_ := Aside0.mk (hb)
      have n8_ := Aside0.mk (hi)
      clear HO1_1
      clear HO1_2
      clear BK114
      clear BK115
      clear HO133
      clear HO139
      clear HK
      clear HB
      clear HI0
      have HO1_1 := n0_
      have HO1_2 := n1_
      have BK114 := n2_
      have BK115 := n3_
      have HO133 := n4_
      have HO139 := n5_
      have HK := n6_
      have HB := n7_
      have HI0 := n8_
      clear n0_ n1_ n2_ n3_ n4_ n5_ n6_ n7_ n8_
      (try clear hb)
      (try clear hb2)
      (try clear hk)
      (try clear hi)
      have p43 : 0 ≤ (t134 : Int) := of_decide_eq_true (by first | (with_reducible assumption) | assumption)
      have q43 : (t134 : Int) < ((t131.length : Int) : Int) := of_decide_eq_true (by first | (with_reducible assumption) | assumption)
      obtain ⟨go43, co43, eo43, gb43, gl43, cl43, HG43⟩ := Kd.R_form HO133.out (by omega)
      (first | cases eo43 | (injection eo43 with ea_ en_ ec_; (first | subst ea_ | (injection ea_ with ea_; subst ea_)); subst ec_; clear en_))
      have GB43 := Aside0.mk gb43
      have GG43 := Aside0.mk HG43
      clear gb43 gl43 HG43
      have HMgo43 := Aside0.mk (show ((P1_1_ go43 ∨ P1_2_ go43) ∨ w.heap.size ≤ go43) from (HO133.out.1 _ rfl).1)
      obtain ⟨hx43_0, hf43_0⟩ := Kd.R_celln 0 HO133.out (t134 : Int) p43 q43
      replace p43 := eq_true p43
      replace q43 := eq_true q43
      have HN0_go43 := Aside0.mk (show g ≠ go43 from by have h_ := IsS176.own_ne HI0.out HO133.out (by decide); intro e_; exact h_ (by rw [e_]; rfl))
      have HP63 := Kd.R_putn HO133.out (t134 : Int) t140
      rw [← Ny143.out] at HP63
      have HQ63 := Aside0.mk HP63
      clear HP63
      refine hK.out _ _ ⟨(blk_cell BK114.out 0).trans rfl, (blk_cell BK114.out 1).trans rfl, (blk_cell BK114.out 2).trans rfl⟩ (fun hHeld => ?_)
      clear hK K
      refine norm_ (a' := ?_) ?_ ?_
      rotate_left
      ·show Act.put _ (some 38) _ = _
       simp only [Act.put, List.setIfInBounds_toArray, List.set_cons_zero, List.set_cons_succ, i64_w, i32_w]
       rfl
      refine Zpt 12 (some 39) (h := ?_)
      refine last_ (i := 13) (N := none) #[true, true, true, true, true, true, true, true, true, true, true, true, true, true] rfl rfl (one_of HT_.out (by kernel_rfl)) (by decide) (fun K hK => ?_)
      refine skip_ (w1 := ?_) (by rfl) rfl ?_ ?_
      rotate_left
      ·go_simp
       rfl
      refine hK.out _ _ ?_
      clear hK K
      refine done_ (done_of HT_.out (by kernel_rfl)) ?_
      have n0_ : Aside0 (Kd.R (Kd.int .i64) 2 (w62.setCell ⟨go43, (t134 : Int).toNat, none⟩ (.int .i64 t140)) w0.heap.size (fun k_ => ((P1_1_ k_ ∨ P1_2_ k_) ∨ w.heap.size ≤ k_) ∧ some k_ ≠ (.slice Ao45 l1_2.length co45 : Value).ownBlock ∧ some k_ ≠ (.slice (some ⟨go43, 0, none⟩) t131.length co53 : Value).ownBlock ∧ some k_ ≠ (.slice Ao61 y137.length co61 : Value).ownBlock) (.slice Ao44 l1_1.length co44) l1_1) := ⟨by refine ZQ ?_; exact Kd.R_mono (Kd.R_far (p := ⟨go43, (t134 : Int).toNat, none⟩) (Kd.R_mono HO1_1.out (fun k_ hk => (⟨hk, fun e_ => hk.2.1 (by rw [e_]; rfl)⟩ : _ ∧ k_ ≠ go43))) (fun _ hk => hk.2) (.int .i64 t140)) (fun _ hk => (And.intro (hk.1.1) ((And.intro (hk.1.2.2.2) ((And.intro (hk.1.2.1) (hk.1.2.2.1)))))))⟩
      have n1_ : Aside0 (Kd.R (Kd.int .i64) 2 (w62.setCell ⟨go43, (t134 : Int).toNat, none⟩ (.int .i64 t140)) w0.heap.size (fun k_ => ((P1_1_ k_ ∨ P1_2_ k_) ∨ w.heap.size ≤ k_) ∧ some k_ ≠ (.slice Ao44 l1_1.length co44 : Value).ownBlock ∧ some k_ ≠ (.slice (some ⟨go43, 0, none⟩) t131.length co53 : Value).ownBlock ∧ some k_ ≠ (.slice Ao61 y137.length co61 : Value).ownBlock) (.slice Ao45 l1_2.length co45) l1_2) := ⟨by refine ZQ ?_; exact Kd.R_mono (Kd.R_far (p := ⟨go43, (t134 : Int).toNat, none⟩) (Kd.R_mono HO1_2.out (fun k_ hk => (⟨hk, fun e_ => hk.2.1 (by rw [e_]; rfl)⟩ : _ ∧ k_ ≠ go43))) (fun _ hk => hk.2) (.int .i64 t140)) (fun _ hk => (And.intro (hk.1.1) ((And.intro (hk.1.2.2.2) ((And.intro (hk.1.2.1) (hk.1.2.2.1)))))))⟩
      have n2_ : Aside0 (Kd.R (Kd.int .i64) 2 (w62.setCell ⟨go43, (t134 : Int).toNat, none⟩ (.int .i64 t140)) w0.heap.size (fun k_ => ((P1_1_ k_ ∨ P1_2_ k_) ∨ w.heap.size ≤ k_) ∧ some k_ ≠ (.slice Ao44 l1_1.length co44 : Value).ownBlock ∧ some k_ ≠ (.slice Ao45 l1_2.length co45 : Value).ownBlock ∧ some k_ ≠ (.slice Ao61 y137.length co61 : Value).ownBlock) (.slice (some ⟨go43, 0, none⟩) t131.length co53) y143) := ⟨by refine ZQ ?_; exact Kd.R_mono HQ63.out (fun _ hk => (And.intro (hk.1) ((And.intro (hk.2.2.1) ((And.intro (hk.2.2.2) (hk.2.1)))))))⟩
      have n3_ : Aside0 (Kd.R (Kd.int .i64) 2 (w62.setCell ⟨go43, (t134 : Int).toNat, none⟩ (.int .i64 t140)) w0.heap.size (fun k_ => ((P1_1_ k_ ∨ P1_2_ k_) ∨ w.heap.size ≤ k_) ∧ some k_ ≠ (.slice Ao44 l1_1.length co44 : Value).ownBlock ∧ some k_ ≠ (.slice Ao45 l1_2.length co45 : Value).ownBlock ∧ some k_ ≠ (.slice (some ⟨go43, 0, none⟩) t131.length co53 : Value).ownBlock) (.slice Ao61 y137.length co61) y137) := ⟨by refine ZQ ?_; exact Kd.R_mono (Kd.R_far (p := ⟨go43, (t134 : Int).toNat, none⟩) (Kd.R_mono HO139.out (fun k_ hk => (⟨hk, fun e_ => hk.2.1 (by rw [e_]; rfl)⟩ : _ ∧ k_ ≠ go43))) (fun _ hk => hk.2) (.int .i64 t140)) (fun _ hk => (And.intro (hk.1.1) ((And.intro (hk.1.2.2.1) ((And.intro (hk.1.2.2.2) (hk.1.2.1)))))))⟩
      have n4_ : Aside0 ((w62.setCell ⟨go43, (t134 : Int).toNat, none⟩ (.int .i64 t140)).heap[gb114]? = some (.cells #[.int .i64 a1_0, .slice Ao44 l1_1.length co44, .slice (some ⟨go43, 0, none⟩) t131.length co53] 26 (0, 0))) := ⟨by refine ZS ?_; refine blk_far ?_ (by have h_ := Kd.R_ne HO133.out BK114.out (by decide); intro e_; exact h_ (by rw [e_]; rfl)) _; refine ZS ?_; exact BK114.out⟩
      have n5_ : Aside0 ((w62.setCell ⟨go43, (t134 : Int).toNat, none⟩ (.int .i64 t140)).heap[gb115]? = some (.cells #[.int .i64 0, .slice none 0 0, .slice none 0 0] 26 (0, 0))) := ⟨by refine ZS ?_; refine blk_far ?_ (by have h_ := Kd.R_ne HO133.out BK115.out (by decide); intro e_; exact h_ (by rw [e_]; rfl)) _; refine ZS ?_; exact BK115.out⟩
      have n6_ : Aside0 (IsS176 w0 (w62.setCell ⟨go43, (t134 : Int).toNat, none⟩ (.int .i64 t140)) g s0_0 t141 t142) := ⟨by exact Zq13⟩
      have n7_ : Aside0 (Kept w (w62.setCell ⟨go43, (t134 : Int).toNat, none⟩ (.int .i64 t140)) (fun k_ => (P1_1_ k_ ∨ P1_2_ k_) ∨ k_ = g)) := ⟨by exact Zq14⟩
      have n8_ : Aside0 (Below w0.heap.size w0 (w62.setCell ⟨go43, (t134 : Int).toNat, none⟩ (.int .i64 t140))) := ⟨by exact Zq15⟩
      (try clear HO1_1)
      (try clear HO1_2)
      (try clear HO133)
      (try clear HO139)
      (try clear BK114)
      (try clear BK115)
      (try clear HI0)
      (try clear HK)
      (try clear HB)
      generalize (w62.setCell ⟨go43, (t134 : Int).toNat, none⟩ (.int .i64 t140)) = w64 at n0_ n1_ n2_ n3_ n4_ n5_ n6_ n7_ n8_ ⊢
      have HO1_1 := n0_
      have HO1_2 := n1_
      have HO133 := n2_
      have HO139 := n3_
      have BK114 := n4_
      have BK115 := n5_
      have HI0 := n6_
      have HK := n7_
      have HB := n8_
      clear n0_ n1_ n2_ n3_ n4_ n5_ n6_ n7_ n8_
      obtain ⟨hcz65_0, hcz65_1, hcz65_2, hfz65_0, hfz65_1, hfz65_2⟩ := ZD3 BK114
      have hnb66 := NB115_0.out
      have hnc66 := NB0_115.out
      obtain ⟨hcz67_0, hcz67_1, hcz67_2, hfz67_0, hfz67_1, hfz67_2⟩ := ZD3 BK115
      try go_wp2
      refine bodyPost_ret (results_cell_row rfl _ _ gb115 26 #[.int .i64 a1_0, .slice Ao44 l1_1.length co44, .slice (some ⟨go43, 0, none⟩) t131.length co53] (0, 0) _ rfl (by refine ZS ?_; refine blk_put (cs := #[.int .i64 a1_0, .slice Ao44 l1_1.length co44, .slice none 0 0]) ?_ 2 _ rfl; refine ZS ?_; refine blk_put (cs := #[.int .i64 a1_0, .slice none 0 0, .slice none 0 0]) ?_ 1 _ rfl; refine ZS ?_; refine blk_put (cs := #[.int .i64 0, .slice none 0 0, .slice none 0 0]) ?_ 0 _ rfl; refine ZS ?_; exact BK115.out) Try.underlying26 rfl (by kernel_rfl)) rfl ?_
      exact ⟨_, _, ZqR, by refine ZQ ?_; exact Kd.R_mono (Kd.R_far (p := ⟨gb115, 2, none⟩) (Kd.R_far (p := ⟨gb115, 1, none⟩) (Kd.R_far (p := ⟨gb115, 0, none⟩) (Kd.R_types HO1_1.out BK115.out (by decide)) (fun _ hk => hk.2) (.int .i64 a1_0)) (fun _ hk => hk.2) (.slice Ao44 l1_1.length co44)) (fun _ hk => hk.2) (.slice (some ⟨go43, 0, none⟩) t131.length co53)) (fun _ hk => (And.intro (hk.1.1) (hk.1.2.2.1))), by refine ZQ ?_; exact Kd.R_mono (Kd.R_far (p := ⟨gb115, 2, none⟩) (Kd.R_far (p := ⟨gb115, 1, none⟩) (Kd.R_far (p := ⟨gb115, 0, none⟩) (Kd.R_types HO133.out BK115.out (by decide)) (fun _ hk => hk.2) (.int .i64 a1_0)) (fun _ hk => hk.2) (.slice Ao44 l1_1.length co44)) (fun _ hk => hk.2) (.slice (some ⟨go43, 0, none⟩) t131.length co53)) (fun _ hk => (And.intro (hk.1.1) (hk.1.2.1))), by exact Zq10, by exact Zq11, by exact Zq12⟩
     ·rw [if_neg c42] at H
      exact absurd H (by simp)
    ·rw [if_neg c41] at H
     exact absurd H (by simp)
   ·rw [if_neg c37] at H
    have c37b0 : (t116 == 2) = false := beq_eq_false_iff_ne.mpr c37
    have c37b1 : (t116 != 2) = true := bne_iff_ne.mpr c37
    by_cases c68 : t116 = 3
    ·rw [if_pos c68] at H
     have c68b0 : (t116 == 3) = true := beq_iff_eq.mpr c68
     have c68b1 : (t116 != 3) = false := bne_eq_false_iff_eq.mpr c68
     clear c68
     replace H := Option.bind_eq_some_iff.mp H
     obtain ⟨t144, A690, H⟩ := H
     try dsimp only at H
     have A69 := Aside0.mk A690
     clear A690
     obtain ⟨y147, hy147⟩ : ∃ y_ : List Int, y_ = (([(-1), a1_0] : List Int)) := ⟨_, rfl⟩
     replace H : ((spec_l01Pick.f s0_0 t117 t118 y147).bind fun bt150 => (if 0 < (t144.length : Int) then (some (a1_0, (t144.set (0 : Int).toNat bt150.1), l1_2, bt150.2.1, bt150.2.2)) else (none))) = some (r1, r2, r3, r4, r5) := by have hq_ := hy147; exact ZqH
     have Ny147 := Aside0.mk hy147
     clear hy147
     replace H := Option.bind_eq_some_iff.mp H
     obtain ⟨⟨t150, t151, t152⟩, A700, H⟩ := H
     try dsimp only at H
     have A70 := Aside0.mk A700
     clear A700
     by_cases c71 : 0 < (t144.length : Int)
     ·rw [if_pos c71] at H
      have c71b0 : decide (0 < (t144.length : Int)) = true := decide_eq_true c71
      have c71b1 : decide (0 < t144.length) = true := decide_eq_true (by omega)
      clear c71
      obtain ⟨y153, hy153⟩ : ∃ y_ : List Int, y_ = (t144.set (0 : Int).toNat t150) := ⟨_, rfl⟩
      replace H : (some (a1_0, y153, l1_2, t151, t152)) = some (r1, r2, r3, r4, r5) := by have hq_ := hy153; exact ZqH
      have Ny153 := Aside0.mk hy153
      clear hy153
      simp only [Option.some.injEq, Prod.mk.injEq] at H
      obtain ⟨rfl, rfl, rfl, rfl, rfl⟩ := H
      obtain ⟨Ao73, co73, eo73⟩ := Kd.R_slice HO1_1.out
      subst eo73
      obtain ⟨Ao74, co74, eo74⟩ := Kd.R_slice HO1_2.out
      subst eo74
      go_enter Try.func226, Try.ntmps226
      try go_wp2_with (first | ((with_reducible refine gate_dst (N := 3) rfl ?_); refine box_event ?hg (N := 3) ?hd (cs := #[.int .i64 a1_0, .slice Ao73 l1_1.length co73, .slice Ao74 l1_2.length co74]) (t := 26) ?hr ?_; (case hd => rfl); (case hg => rfl); (case hr => exact ZqT); intro gb114 hg w75 hbox hb; have n0_ := Aside0.mk (Kd.R_below (ZR HO1_1) hb); have n1_ := Aside0.mk (Kd.R_below (ZR HO1_2) hb); have n2_ := Aside0.mk (IsS176.below (by exact Zq3) hb); have n3_ := Aside0.mk (Kept.below (S := (fun k_ => (P1_1_ k_ ∨ P1_2_ k_) ∨ k_ = g)) (by exact Zq6) hb); have n4_ := Aside0.mk (below_step (by exact Zq4) hb); have n5_ := Aside0.mk (hbox); have n6_ := Aside0.mk ((by rw [hg]; exact (by first | exact HK.out.1 | exact (show Kept w _ (fun k_ => (P1_1_ k_ ∨ P1_2_ k_) ∨ k_ = g) from by exact Zq6).1) : w.heap.size ≤ gb114)); have n7_ := Aside0.mk ((by rw [hg]; exact (below_size (by exact Zq4)) : w0.heap.size ≤ gb114)); have n8_ := Aside0.mk ((by rw [hg]; exact Nat.ne_of_lt (IsS176.lt (show IsS176 w0 _ g s0_0 s0_1 s0_2 from by exact Zq3)) : g ≠ gb114)); have n9_ := Aside0.mk ((by rw [hg]; exact Nat.ne_of_gt (IsS176.lt (show IsS176 w0 _ g s0_0 s0_1 s0_2 from by exact Zq3)) : gb114 ≠ g)); clear HO1_1 HO1_2 HI0 HK HB; have HO1_1 := n0_; have HO1_2 := n1_; have HI0 := n2_; have HK := n3_; have HB := n4_; have BK114 := n5_; have GW114 := n6_; have GE114 := n7_; have NB0_114 := n8_; have NB114_0 := n9_; clear n0_ n1_ n2_ n3_ n4_ n5_ n6_ n7_ n8_ n9_; clear hb hbox hg) | ((with_reducible refine gate_dst (N := 4) rfl ?_); refine box_event ?hg (N := 4) ?hd (cs := #[.int .i64 0, .slice none 0 0, .slice none 0 0]) (t := 26) ?hr ?_; (case hd => rfl); (case hg => rfl); (case hr => exact ZqT); intro gb115 hg w76 hbox hb; have n0_ := Aside0.mk (Kd.R_below (ZR HO1_1) hb); have n1_ := Aside0.mk (Kd.R_below (ZR HO1_2) hb); have n2_ := Aside0.mk (IsS176.below (by exact Zq7) hb); have n3_ := ZL BK114 hb; have n4_ := Aside0.mk (Kept.below (S := (fun k_ => (P1_1_ k_ ∨ P1_2_ k_) ∨ k_ = g)) (by exact Zq8) hb); have n5_ := Aside0.mk (below_step (by exact Zq9) hb); have n6_ := Aside0.mk (hbox); have n7_ := Aside0.mk ((by rw [hg]; exact (by first | exact HK.out.1 | exact (show Kept w _ (fun k_ => (P1_1_ k_ ∨ P1_2_ k_) ∨ k_ = g) from by exact Zq8).1) : w.heap.size ≤ gb115)); have n8_ := Aside0.mk ((by rw [hg]; exact (below_size (by exact Zq9)) : w0.heap.size ≤ gb115)); have n9_ := Aside0.mk ((ZN hg BK114 : gb114 ≠ gb115)); have n10_ := Aside0.mk ((ZM hg BK114 : gb115 ≠ gb114)); have n11_ := Aside0.mk ((by rw [hg]; exact Nat.ne_of_lt (IsS176.lt (show IsS176 w0 _ g s0_0 s0_1 s0_2 from by exact Zq7)) : g ≠ gb115)); have n12_ := Aside0.mk ((by rw [hg]; exact Nat.ne_of_gt (IsS176.lt (show IsS176 w0 _ g s0_0 s0_1 s0_2 from by exact Zq7)) : gb115 ≠ g)); clear HO1_1 HO1_2 HI0 BK114 HK HB; have HO1_1 := n0_; have HO1_2 := n1_; have HI0 := n2_; have BK114 := n3_; have HK := n4_; have HB := n5_; have BK115 := n6_; have GW115 := n7_; have GE115 := n8_; have NB114_115 := n9_; have NB115_114 := n10_; have NB0_115 := n11_; have NB115_0 := n12_; clear n0_ n1_ n2_ n3_ n4_ n5_ n6_ n7_ n8_ n9_ n10_ n11_ n12_; clear hb hbox hg) | ((with_reducible refine gate_callee (f := 122) rfl ?_); refine goesL_ (some 6) rfl rfl Try.func122 (by kernel_rfl) rfl #[.pointer (some ⟨g, 0, none⟩), .int .i64 40] rfl ZA ?_; (with_reducible refine (spec_l01Next.calls g s0_0 s0_1 s0_2 40 t116 t117 t118 w0 _ ?side1 ?side2 A3.out).mono ?_); (case side1 => exact Zq10); (case side2 => exact Zq11); rintro e w77 ⟨rfl, hi, hb, hk⟩; refine ⟨_, rfl, ?_⟩; have n0_ := Aside0.mk (Kd.R_mono (Kd.R_keep (IsS176.apart (show IsS176 w0 _ g s0_0 s0_1 s0_2 from by exact Zq10) (ZR HO1_1) (by decide)) hk (fun _ h => h.2)) (fun _ h => h.1)); have n1_ := Aside0.mk (Kd.R_mono (Kd.R_keep (IsS176.apart (show IsS176 w0 _ g s0_0 s0_1 s0_2 from by exact Zq10) (ZR HO1_2) (by decide)) hk (fun _ h => h.2)) (fun _ h => h.1)); have n2_ := Aside0.mk (KeepBut.blk hk (g' := gb114) (o := .cells #[.int .i64 a1_0, .slice Ao73 l1_1.length co73, .slice Ao74 l1_2.length co74] 26 (0, 0)) (ZK BK114) NB114_0.out (by simp)); have n3_ := Aside0.mk (KeepBut.blk hk (g' := gb115) (o := .cells #[.int .i64 0, .slice none 0 0, .slice none 0 0] 26 (0, 0)) (ZK BK115) NB115_0.out (by simp)); have n4_ := Aside0.mk (Kept.of_keep (S := (fun k_ => (P1_1_ k_ ∨ P1_2_ k_) ∨ k_ = g)) (by exact Zq12) hk (.inl (.inr rfl))); have n5_ := Aside0.mk (hb); have n6_ := Aside0.mk (hi); clear HO1_1 HO1_2 BK114 BK115 HK HB HI0; have HO1_1 := n0_; have HO1_2 := n1_; have BK114 := n2_; have BK115 := n3_; have HK := n4_; have HB := n5_; have HI0 := n6_; clear n0_ n1_ n2_ n3_ n4_ n5_ n6_; (try clear hb); (try clear hk); (try clear hi); have hnb78 := NB114_115.out; have hnc78 := NB115_114.out; have hnb79 := NB114_0.out; have hnc79 := NB0_114.out; obtain ⟨hcz80_0, hcz80_1, hcz80_2, hfz80_0, hfz80_1, hfz80_2⟩ := ZD3 BK114) | ((with_reducible refine gate_callee (f := 155) rfl ?_); refine goesL_ (some 44) rfl rfl Try.func155 (by kernel_rfl) rfl #[.slice Ao73 l1_1.length co73] rfl ZA ?_; (with_reducible refine (spec_l01Own.calls _ _ l1_1 t144 _ ?side1 ?side2 A69.out).mono ?_); (case side1 => exact ZqC ((Kd.R_reads' HO1_1.out).2.2)); (case side2 => exact (Kd.R_reads' HO1_1.out).2.1); rintro e w81 ⟨v145, rfl, ho0, hb⟩; refine ⟨_, rfl, ?_⟩; have n0_ := Aside0.mk (Kd.R_elder' (ZR HO1_1) (Kd.R_base ho0) hb); have n1_ := Aside0.mk (Kd.R_elder' (ZR HO1_2) (Kd.R_base ho0) hb); have n2_ := Aside0.mk (Kd.R_lower (Kd.R_new' (Kd.R_new' (Kd.R_newM (M := fun k_ => ((P1_1_ k_ ∨ P1_2_ k_) ∨ w.heap.size ≤ k_)) ho0 (by first | exact HK.out.1 | exact (show Kept w _ (fun k_ => (P1_1_ k_ ∨ P1_2_ k_) ∨ k_ = g) from by exact Zq12).1) (fun k_ h_ => .inr h_)) (Kd.R_lt (ZR HO1_1))) (Kd.R_lt (ZR HO1_2))) (below_size (by exact Zq11))); have n3_ := Aside0.mk (IsS176.below (by exact Zq10) hb); have n4_ := ZL BK114 hb; have n5_ := ZL BK115 hb; have n6_ := Aside0.mk (Kept.below (S := (fun k_ => (P1_1_ k_ ∨ P1_2_ k_) ∨ k_ = g)) (by exact Zq12) hb); have n7_ := Aside0.mk (below_step (by exact Zq11) hb); clear HO1_1 HO1_2 HI0 BK114 BK115 HK HB; have HO1_1 := n0_; have HO1_2 := n1_; have HO146 := n2_; have HI0 := n3_; have BK114 := n4_; have BK115 := n5_; have HK := n6_; have HB := n7_; clear n0_ n1_ n2_ n3_ n4_ n5_ n6_ n7_; (try clear hb); (try clear ho0); obtain ⟨Ao82, co82, eo82⟩ := Kd.R_slice HO146.out; subst eo82; obtain ⟨hcz83_0, hcz83_1, hcz83_2, hfz83_0, hfz83_1, hfz83_2⟩ := ZD3 BK114))
      have n0_ : Aside0 (Kd.R (Kd.int .i64) 2 (w81.setCell ⟨gb114, 1, none⟩ (.slice Ao82 t144.length co82)) w0.heap.size (fun k_ => ((P1_1_ k_ ∨ P1_2_ k_) ∨ w.heap.size ≤ k_) ∧ some k_ ≠ (.slice Ao74 l1_2.length co74 : Value).ownBlock ∧ some k_ ≠ (.slice Ao82 t144.length co82 : Value).ownBlock) (.slice Ao73 l1_1.length co73) l1_1) := ⟨by refine ZQ ?_; exact Kd.R_mono (Kd.R_far (p := ⟨gb114, 1, none⟩) (Kd.R_types HO1_1.out BK114.out (by decide)) (fun _ hk => hk.2) (.slice Ao82 t144.length co82)) (fun _ hk => (And.intro (hk.1.1.1) ((And.intro (hk.1.1.2) (hk.1.2)))))⟩
      have n1_ : Aside0 (Kd.R (Kd.int .i64) 2 (w81.setCell ⟨gb114, 1, none⟩ (.slice Ao82 t144.length co82)) w0.heap.size (fun k_ => ((P1_1_ k_ ∨ P1_2_ k_) ∨ w.heap.size ≤ k_) ∧ some k_ ≠ (.slice Ao73 l1_1.length co73 : Value).ownBlock ∧ some k_ ≠ (.slice Ao82 t144.length co82 : Value).ownBlock) (.slice Ao74 l1_2.length co74) l1_2) := ⟨by refine ZQ ?_; exact Kd.R_mono (Kd.R_far (p := ⟨gb114, 1, none⟩) (Kd.R_types HO1_2.out BK114.out (by decide)) (fun _ hk => hk.2) (.slice Ao82 t144.length co82)) (fun _ hk => (And.intro (hk.1.1.1) ((And.intro (hk.1.1.2) (hk.1.2)))))⟩
      have n2_ : Aside0 (Kd.R (Kd.int .i64) 2 (w81.setCell ⟨gb114, 1, none⟩ (.slice Ao82 t144.length co82)) w0.heap.size (fun k_ => ((P1_1_ k_ ∨ P1_2_ k_) ∨ w.heap.size ≤ k_) ∧ some k_ ≠ (.slice Ao73 l1_1.length co73 : Value).ownBlock ∧ some k_ ≠ (.slice Ao74 l1_2.length co74 : Value).ownBlock) (.slice Ao82 t144.length co82) t144) := ⟨by refine ZQ ?_; exact Kd.R_mono (Kd.R_far (p := ⟨gb114, 1, none⟩) (Kd.R_types HO146.out BK114.out (by decide)) (fun _ hk => hk.2) (.slice Ao82 t144.length co82)) (fun _ hk => (And.intro (hk.1.1.1.1) ((And.intro (hk.1.1.2) (hk.1.2)))))⟩
      have n3_ : Aside0 ((w81.setCell ⟨gb114, 1, none⟩ (.slice Ao82 t144.length co82)).heap[gb114]? = some (.cells #[.int .i64 a1_0, .slice Ao82 t144.length co82, .slice Ao74 l1_2.length co74] 26 (0, 0))) := ⟨by refine ZS ?_; refine blk_put (cs := #[.int .i64 a1_0, .slice Ao73 l1_1.length co73, .slice Ao74 l1_2.length co74]) ?_ 1 _ rfl; refine ZS ?_; exact BK114.out⟩
      have n4_ : Aside0 ((w81.setCell ⟨gb114, 1, none⟩ (.slice Ao82 t144.length co82)).heap[gb115]? = some (.cells #[.int .i64 0, .slice none 0 0, .slice none 0 0] 26 (0, 0))) := ⟨by refine ZS ?_; refine blk_far ?_ NB115_114.out _; refine ZS ?_; exact BK115.out⟩
      have n5_ : Aside0 (IsS176 w0 (w81.setCell ⟨gb114, 1, none⟩ (.slice Ao82 t144.length co82)) g s0_0 t117 t118) := ⟨by exact Zq10⟩
      have n6_ : Aside0 (Kept w (w81.setCell ⟨gb114, 1, none⟩ (.slice Ao82 t144.length co82)) (fun k_ => (P1_1_ k_ ∨ P1_2_ k_) ∨ k_ = g)) := ⟨by exact Zq12⟩
      have n7_ : Aside0 (Below w0.heap.size w0 (w81.setCell ⟨gb114, 1, none⟩ (.slice Ao82 t144.length co82))) := ⟨by exact Zq11⟩
      (try clear HO1_1)
      (try clear HO1_2)
      (try clear HO146)
      (try clear BK114)
      (try clear BK115)
      (try clear HI0)
      (try clear HK)
      (try clear HB)
      generalize (w81.setCell ⟨gb114, 1, none⟩ (.slice Ao82 t144.length co82)) = w84 at n0_ n1_ n2_ n3_ n4_ n5_ n6_ n7_ ⊢
      have HO1_1 := n0_
      have HO1_2 := n1_
      have HO146 := n2_
      have BK114 := n3_
      have BK115 := n4_
      have HI0 := n5_
      have HK := n6_
      have HB := n7_
      clear n0_ n1_ n2_ n3_ n4_ n5_ n6_ n7_
      have n0_ := Aside0.mk (Kd.R_drew HO1_1.out)
      have n1_ := Aside0.mk (Kd.R_drew HO1_2.out)
      have n2_ := Aside0.mk (Kd.R_drew HO146.out)
      have n3_ := Aside0.mk (blk_drew BK114.out)
      have n4_ := Aside0.mk (blk_drew BK115.out)
      have n5_ := Aside0.mk (IsS176.drew HI0.out)
      have n6_ := Aside0.mk (Kept.drew HK.out)
      have n7_ := Aside0.mk (below_drew1 HB.out)
      clear HO1_1
      clear HO1_2
      clear HO146
      clear BK114
      clear BK115
      clear HI0
      clear HK
      clear HB
      have HO1_1 := n0_
      have HO1_2 := n1_
      have HO146 := n2_
      have BK114 := n3_
      have BK115 := n4_
      have HI0 := n5_
      have HK := n6_
      have HB := n7_
      clear n0_ n1_ n2_ n3_ n4_ n5_ n6_ n7_
      refine start_ (n := 9) (S := fun w' => w'.cell? ⟨gb114, 0, none⟩ = some (.int .i64 a1_0) ∧ w'.cell? ⟨gb114, 1, none⟩ = some (.slice Ao82 t144.length co82) ∧ w'.cell? ⟨gb114, 2, none⟩ = some (.slice Ao74 l1_2.length co74)) (ds := [8]) #[false, false, false, false, false, false, false, false, false] (by kernel_rfl) rfl rfl ⟨(blk_cell BK114.out 0).trans rfl, (blk_cell BK114.out 1).trans rfl, (blk_cell BK114.out 2).trans rfl⟩ (fun hHeld => ?_); refine with_tabW spec_l03Bad.tab11 spec_l03Bad.bits11 (fun HT_ HW_ => ?_)
      generalize w84.drew = w85 at HO1_1 HO1_2 HO146 BK114 BK115 HI0 HK HB hHeld ⊢
      refine Zpt 0 (some 46) (h := ?_)
      refine Zpt 2 (some 48) (h := ?_)
      refine Zpt 3 (some 49) (h := ?_)
      refine ZtW3 1 (some 47) hHeld (h := ?_)
      refine ZtW3 4 (some 50) hHeld (h := ?_)
      refine one_ (i := 5) (N := some 51) #[true, true, true, true, true, true, false, false, false] rfl rfl (one_of HT_.out (by kernel_rfl)) (by decide) (fun K hK => ?_)
      refine Kd.R_lit_step (Kd.int .i64) _ 2 ?hg (N := 51) ?hd (xs := ([(-1), a1_0] : List Int)) (inner := [.int .i64 (-1), .int .i64 a1_0]) (ok := fun _ => True) (okp := fun _ => True) ?hr ?hp (fun _ hk => hk) trivial (Below.refl _ _) (Nat.le_refl _) (by simp) ?_; (case hd => rfl); (case hg => rfl); (case hr => exact ZqT); (case hp => exact (Reps.one (show Kd.M (Kd.int .i64) _ _ _ (-1) [.int .i64 (-1)] from rfl) (Reps.one (show Kd.M (Kd.int .i64) _ _ _ a1_0 [.int .i64 a1_0] from rfl) (Reps.none _ _))))
      intro v148 w86 ho87 hb hg_ hnew_
      clear hg_ hnew_
      (first | rw [← Ny147.out] at ho87 | (simp only [Int.reduceToNat] at ho87; rw [← Ny147.out] at ho87))
      have n0_ := Aside0.mk (Kd.R_elder' (ZR HO1_1) (Kd.R_base ho87) hb)
      have n1_ := Aside0.mk (Kd.R_elder' (ZR HO1_2) (Kd.R_base ho87) hb)
      have n2_ := Aside0.mk (Kd.R_elder' (ZR HO146) (Kd.R_base ho87) hb)
      have n3_ := Aside0.mk (Kd.R_lower (Kd.R_new' (Kd.R_new' (Kd.R_new' (Kd.R_newM (M := fun k_ => ((P1_1_ k_ ∨ P1_2_ k_) ∨ w.heap.size ≤ k_)) ho87 (by first | exact HK.out.1 | exact (show Kept w _ (fun k_ => (P1_1_ k_ ∨ P1_2_ k_) ∨ k_ = g) from by exact Zq12).1) (fun k_ h_ => .inr h_)) (Kd.R_lt (ZR HO1_1))) (Kd.R_lt (ZR HO1_2))) (Kd.R_lt (ZR HO146))) (below_size (by exact Zq11)))
      have n4_ := Aside0.mk (IsS176.below (by exact Zq10) hb)
      have n5_ := ZL BK114 hb
      have n6_ := ZL BK115 hb
      have n7_ := Aside0.mk (Kept.below (S := (fun k_ => (P1_1_ k_ ∨ P1_2_ k_) ∨ k_ = g)) (by exact Zq12) hb)
      have n8_ := Aside0.mk (below_step (by exact Zq11) hb)
      clear HO1_1
      clear HO1_2
      clear HO146
      clear HI0
      clear BK114
      clear BK115
      clear HK
      clear HB
      have HO1_1 := n0_
      have HO1_2 := n1_
      have HO146 := n2_
      have HO149 := n3_
      have HI0 := n4_
      have BK114 := n5_
      have BK115 := n6_
      have HK := n7_
      have HB := n8_
      clear n0_ n1_ n2_ n3_ n4_ n5_ n6_ n7_ n8_
      clear hb ho87
      obtain ⟨Ao88, co88, eo88⟩ := Kd.R_slice HO149.out
      (first | subst eo88 | (injection eo88 with f1_ f2_ f3_; have f4_ := f1_.symm; have f5_ := f3_.symm; clear f1_ f2_ f3_; subst f4_; subst f5_))
      refine hK.out _ _ ⟨(blk_cell BK114.out 0).trans rfl, (blk_cell BK114.out 1).trans rfl, (blk_cell BK114.out 2).trans rfl⟩ (fun hHeld => ?_)
      clear hK K
      refine norm_ (a' := ?_) ?_ ?_
      rotate_left
      ·show Act.put _ (some 51) _ = _
       simp only [Act.put, List.setIfInBounds_toArray, List.set_cons_zero, List.set_cons_succ, i64_w, i32_w]
       rfl
      refine one_ (i := 6) (N := some 52) #[true, true, true, true, true, true, true, false, false] rfl rfl (one_of HT_.out (by kernel_rfl)) (by decide) (fun K hK => ?_)
      refine goes_ Try.func136 (by kernel_rfl) rfl #[.pointer (some ⟨g, 0, none⟩), .slice Ao88 y147.length co88] (by rfl) rfl rfl ZA ?_
      with_reducible refine (spec_l01Pick.calls g s0_0 t117 t118 _ _ y147 t150 t151 t152 w0 _ ?side1 ?side2 ?side3 ?side4 ?side5 A70.out).mono ?_
      (case side1 => exact Zq10)
      (case side2 => exact Zq11)
      (case side3 => exact ZqC ((Kd.R_reads' HO149.out).2.2))
      (case side4 => exact (Kd.R_reads' HO149.out).2.1)
      (case side5 => exact far_slice (IsS176.own_ne HI0.out HO149.out (by decide)))
      rintro e w89 ⟨rfl, hi, hb, hk⟩
      refine ⟨_, rfl, ?_⟩
      have n0_ := Aside0.mk (Kd.R_mono (Kd.R_keep (IsS176.apart (show IsS176 w0 _ g s0_0 t117 t118 from by exact Zq10) (ZR HO1_1) (by decide)) hk (fun _ h => h.2)) (fun _ h => h.1))
      have n1_ := Aside0.mk (Kd.R_mono (Kd.R_keep (IsS176.apart (show IsS176 w0 _ g s0_0 t117 t118 from by exact Zq10) (ZR HO1_2) (by decide)) hk (fun _ h => h.2)) (fun _ h => h.1))
      have n2_ := Aside0.mk (KeepBut.blk hk (g' := gb114) (o := .cells #[.int .i64 a1_0, .slice Ao82 t144.length co82, .slice Ao74 l1_2.length co74] 26 (0, 0)) (ZK BK114) NB114_0.out (by simp))
      have n3_ := Aside0.mk (KeepBut.blk hk (g' := gb115) (o := .cells #[.int .i64 0, .slice none 0 0, .slice none 0 0] 26 (0, 0)) (ZK BK115) NB115_0.out (by simp))
      have n4_ := Aside0.mk (Kd.R_mono (Kd.R_keep (IsS176.apart (show IsS176 w0 _ g s0_0 t117 t118 from by exact Zq10) (ZR HO146) (by decide)) hk (fun _ h => h.2)) (fun _ h => h.1))
      have n5_ := Aside0.mk (Kd.R_mono (Kd.R_keep (IsS176.apart (show IsS176 w0 _ g s0_0 t117 t118 from by exact Zq10) (ZR HO149) (by decide)) hk (fun _ h => h.2)) (fun _ h => h.1))
      have n6_ := Aside0.mk (Kept.of_keep (S := (fun k_ => (P1_1_ k_ ∨ P1_2_ k_) ∨ k_ = g)) (by exact Zq12) hk (.inl (.inr rfl)))
      have n7_ := Aside0.mk (hb)
      have n8_ := Aside0.mk (hi)
      clear HO1_1
      clear HO1_2
      clear BK114
      clear BK115
      clear HO146
      clear HO149
      clear HK
      clear HB
      clear HI0
      have HO1_1 := n0_
      have HO1_2 := n1_
      have BK114 := n2_
      have BK115 := n3_
      have HO146 := n4_
      have HO149 := n5_
      have HK := n6_
      have HB := n7_
      have HI0 := n8_
      clear n0_ n1_ n2_ n3_ n4_ n5_ n6_ n7_ n8_
      (try clear hb)
      (try clear hb2)
      (try clear hk)
      (try clear hi)
      have p72 : 0 ≤ (0 : Int) := (by omega)
      have q72 : (0 : Int) < ((t144.length : Int) : Int) := of_decide_eq_true (by first | (with_reducible assumption) | assumption)
      have qi72 : (0 < t144.length) = True := eq_true (by omega)
      obtain ⟨go72, co72, eo72, gb72, gl72, cl72, HG72⟩ := Kd.R_form HO146.out (by omega)
      (first | cases eo72 | (injection eo72 with ea_ en_ ec_; (first | subst ea_ | (injection ea_ with ea_; subst ea_)); subst ec_; clear en_))
      have GB72 := Aside0.mk gb72
      have GG72 := Aside0.mk HG72
      clear gb72 gl72 HG72
      have HMgo72 := Aside0.mk (show ((P1_1_ go72 ∨ P1_2_ go72) ∨ w.heap.size ≤ go72) from (HO146.out.1 _ rfl).1.1)
      obtain ⟨hx72_0, hf72_0⟩ := Kd.R_celln 0 HO146.out (0 : Int) p72 q72
      (try rw [show ((0 : Int)).toNat = 0 from rfl] at hx72_0)
      (try simp only [Nat.reduceMul, Nat.zero_mul, Nat.zero_add, Nat.reduceAdd] at hx72_0)
      (try rw [show ((0 : Int)).toNat = 0 from rfl] at hf72_0)
      (try simp only [Nat.reduceMul, Nat.zero_mul, Nat.zero_add, Nat.reduceAdd] at hf72_0)
      replace p72 := eq_true p72
      replace q72 := eq_true q72
      have HN0_go72 := Aside0.mk (show g ≠ go72 from by have h_ := IsS176.own_ne HI0.out HO146.out (by decide); intro e_; exact h_ (by rw [e_]; rfl))
      have HP90 := Kd.R_putn HO146.out (0 : Int) t150
      rw [← Ny153.out] at HP90
      have HQ90 := Aside0.mk HP90
      clear HP90
      refine hK.out _ _ ⟨(blk_cell BK114.out 0).trans rfl, (blk_cell BK114.out 1).trans rfl, (blk_cell BK114.out 2).trans rfl⟩ (fun hHeld => ?_)
      clear hK K
      refine norm_ (a' := ?_) ?_ ?_
      rotate_left
      ·show Act.put _ (some 52) _ = _
       simp only [Act.put, List.setIfInBounds_toArray, List.set_cons_zero, List.set_cons_succ, i64_w, i32_w]
       rfl
      refine Zpt 7 (some 53) (h := ?_)
      refine last_ (i := 8) (N := none) #[true, true, true, true, true, true, true, true, true] rfl rfl (one_of HT_.out (by kernel_rfl)) (by decide) (fun K hK => ?_)
      refine skip_ (w1 := ?_) (by rfl) rfl ?_ ?_
      rotate_left
      ·go_simp
       rfl
      refine hK.out _ _ ?_
      clear hK K
      refine done_ (done_of HT_.out (by kernel_rfl)) ?_
      have n0_ : Aside0 (Kd.R (Kd.int .i64) 2 (w89.setCell ⟨go72, 0, none⟩ (.int .i64 t150)) w0.heap.size (fun k_ => ((P1_1_ k_ ∨ P1_2_ k_) ∨ w.heap.size ≤ k_) ∧ some k_ ≠ (.slice Ao74 l1_2.length co74 : Value).ownBlock ∧ some k_ ≠ (.slice (some ⟨go72, 0, none⟩) t144.length co82 : Value).ownBlock ∧ some k_ ≠ (.slice Ao88 y147.length co88 : Value).ownBlock) (.slice Ao73 l1_1.length co73) l1_1) := ⟨by refine ZQ ?_; exact Kd.R_mono (Kd.R_far (p := ⟨go72, 0, none⟩) (Kd.R_mono HO1_1.out (fun k_ hk => (⟨hk, fun e_ => hk.1.2.2 (by rw [e_]; rfl)⟩ : _ ∧ k_ ≠ go72))) (fun _ hk => hk.2) (.int .i64 t150)) (fun _ hk => (And.intro (hk.1.1.1) ((And.intro (hk.1.1.2.1) ((And.intro (hk.1.1.2.2) (hk.1.2)))))))⟩
      have n1_ : Aside0 (Kd.R (Kd.int .i64) 2 (w89.setCell ⟨go72, 0, none⟩ (.int .i64 t150)) w0.heap.size (fun k_ => ((P1_1_ k_ ∨ P1_2_ k_) ∨ w.heap.size ≤ k_) ∧ some k_ ≠ (.slice Ao73 l1_1.length co73 : Value).ownBlock ∧ some k_ ≠ (.slice (some ⟨go72, 0, none⟩) t144.length co82 : Value).ownBlock ∧ some k_ ≠ (.slice Ao88 y147.length co88 : Value).ownBlock) (.slice Ao74 l1_2.length co74) l1_2) := ⟨by refine ZQ ?_; exact Kd.R_mono (Kd.R_far (p := ⟨go72, 0, none⟩) (Kd.R_mono HO1_2.out (fun k_ hk => (⟨hk, fun e_ => hk.1.2.2 (by rw [e_]; rfl)⟩ : _ ∧ k_ ≠ go72))) (fun _ hk => hk.2) (.int .i64 t150)) (fun _ hk => (And.intro (hk.1.1.1) ((And.intro (hk.1.1.2.1) ((And.intro (hk.1.1.2.2) (hk.1.2)))))))⟩
      have n2_ : Aside0 (Kd.R (Kd.int .i64) 2 (w89.setCell ⟨go72, 0, none⟩ (.int .i64 t150)) w0.heap.size (fun k_ => ((P1_1_ k_ ∨ P1_2_ k_) ∨ w.heap.size ≤ k_) ∧ some k_ ≠ (.slice Ao73 l1_1.length co73 : Value).ownBlock ∧ some k_ ≠ (.slice Ao74 l1_2.length co74 : Value).ownBlock ∧ some k_ ≠ (.slice Ao88 y147.length co88 : Value).ownBlock) (.slice (some ⟨go72, 0, none⟩) t144.length co82) y153) := ⟨by refine ZQ ?_; exact Kd.R_mono HQ90.out (fun _ hk => (And.intro (hk.1.1) ((And.intro (hk.1.2.1) ((And.intro (hk.1.2.2) (hk.2)))))))⟩
      have n3_ : Aside0 (Kd.R (Kd.int .i64) 2 (w89.setCell ⟨go72, 0, none⟩ (.int .i64 t150)) w0.heap.size (fun k_ => ((P1_1_ k_ ∨ P1_2_ k_) ∨ w.heap.size ≤ k_) ∧ some k_ ≠ (.slice Ao73 l1_1.length co73 : Value).ownBlock ∧ some k_ ≠ (.slice Ao74 l1_2.length co74 : Value).ownBlock ∧ some k_ ≠ (.slice (some ⟨go72, 0, none⟩) t144.length co82 : Value).ownBlock) (.slice Ao88 y147.length co88) y147) := ⟨by refine ZQ ?_; exact Kd.R_mono (Kd.R_far (p := ⟨go72, 0, none⟩) (Kd.R_mono HO149.out (fun k_ hk => (⟨hk, fun e_ => hk.2 (by rw [e_]; rfl)⟩ : _ ∧ k_ ≠ go72))) (fun _ hk => hk.2) (.int .i64 t150)) (fun _ hk => (And.intro (hk.1.1.1.1.1) ((And.intro (hk.1.1.1.2) ((And.intro (hk.1.1.2) (hk.1.2)))))))⟩
      have n4_ : Aside0 ((w89.setCell ⟨go72, 0, none⟩ (.int .i64 t150)).heap[gb114]? = some (.cells #[.int .i64 a1_0, .slice (some ⟨go72, 0, none⟩) t144.length co82, .slice Ao74 l1_2.length co74] 26 (0, 0))) := ⟨by refine ZS ?_; refine blk_far ?_ (by have h_ := Kd.R_ne HO146.out BK114.out (by decide); intro e_; exact h_ (by rw [e_]; rfl)) _; refine ZS ?_; exact BK114.out⟩
      have n5_ : Aside0 ((w89.setCell ⟨go72, 0, none⟩ (.int .i64 t150)).heap[gb115]? = some (.cells #[.int .i64 0, .slice none 0 0, .slice none 0 0] 26 (0, 0))) := ⟨by refine ZS ?_; refine blk_far ?_ (by have h_ := Kd.R_ne HO146.out BK115.out (by decide); intro e_; exact h_ (by rw [e_]; rfl)) _; refine ZS ?_; exact BK115.out⟩
      have n6_ : Aside0 (IsS176 w0 (w89.setCell ⟨go72, 0, none⟩ (.int .i64 t150)) g s0_0 t151 t152) := ⟨by exact Zq16⟩
      have n7_ : Aside0 (Kept w (w89.setCell ⟨go72, 0, none⟩ (.int .i64 t150)) (fun k_ => (P1_1_ k_ ∨ P1_2_ k_) ∨ k_ = g)) := ⟨by exact Zq17⟩
      have n8_ : Aside0 (Below w0.heap.size w0 (w89.setCell ⟨go72, 0, none⟩ (.int .i64 t150))) := ⟨by exact Zq18⟩
      (try clear HO1_1)
      (try clear HO1_2)
      (try clear HO146)
      (try clear HO149)
      (try clear BK114)
      (try clear BK115)
      (try clear HI0)
      (try clear HK)
      (try clear HB)
      generalize (w89.setCell ⟨go72, 0, none⟩ (.int .i64 t150)) = w91 at n0_ n1_ n2_ n3_ n4_ n5_ n6_ n7_ n8_ ⊢
      have HO1_1 := n0_
      have HO1_2 := n1_
      have HO146 := n2_
      have HO149 := n3_
      have BK114 := n4_
      have BK115 := n5_
      have HI0 := n6_
      have HK := n7_
      have HB := n8_
      clear n0_ n1_ n2_ n3_ n4_ n5_ n6_ n7_ n8_
      obtain ⟨hcz92_0, hcz92_1, hcz92_2, hfz92_0, hfz92_1, hfz92_2⟩ := ZD3 BK114
      have hnb93 := NB115_0.out
      have hnc93 := NB0_115.out
      obtain ⟨hcz94_0, hcz94_1, hcz94_2, hfz94_0, hfz94_1, hfz94_2⟩ := ZD3 BK115
      try go_wp2
      refine bodyPost_ret (results_cell_row rfl _ _ gb115 26 #[.int .i64 a1_0, .slice (some ⟨go72, 0, none⟩) t144.length co82, .slice Ao74 l1_2.length co74] (0, 0) _ rfl (by refine ZS ?_; refine blk_put (cs := #[.int .i64 a1_0, .slice (some ⟨go72, 0, none⟩) t144.length co82, .slice none 0 0]) ?_ 2 _ rfl; refine ZS ?_; refine blk_put (cs := #[.int .i64 a1_0, .slice none 0 0, .slice none 0 0]) ?_ 1 _ rfl; refine ZS ?_; refine blk_put (cs := #[.int .i64 0, .slice none 0 0, .slice none 0 0]) ?_ 0 _ rfl; refine ZS ?_; exact BK115.out) Try.underlying26 rfl (by kernel_rfl)) rfl ?_
      exact ⟨_, _, ZqR, by refine ZQ ?_; exact Kd.R_mono (Kd.R_far (p := ⟨gb115, 2, none⟩) (Kd.R_far (p := ⟨gb115, 1, none⟩) (Kd.R_far (p := ⟨gb115, 0, none⟩) (Kd.R_types HO146.out BK115.out (by decide)) (fun _ hk => hk.2) (.int .i64 a1_0)) (fun _ hk => hk.2) (.slice (some ⟨go72, 0, none⟩) t144.length co82)) (fun _ hk => hk.2) (.slice Ao74 l1_2.length co74)) (fun _ hk => (And.intro (hk.1.1) (hk.1.2.2.1))), by refine ZQ ?_; exact Kd.R_mono (Kd.R_far (p := ⟨gb115, 2, none⟩) (Kd.R_far (p := ⟨gb115, 1, none⟩) (Kd.R_far (p := ⟨gb115, 0, none⟩) (Kd.R_types HO1_2.out BK115.out (by decide)) (fun _ hk => hk.2) (.int .i64 a1_0)) (fun _ hk => hk.2) (.slice (some ⟨go72, 0, none⟩) t144.length co82)) (fun _ hk => hk.2) (.slice Ao74 l1_2.length co74)) (fun _ hk => (And.intro (hk.1.1) (hk.1.2.2.1))), by exact Zq10, by exact Zq11, by exact Zq12⟩
     ·rw [if_neg c71] at H
      exact absurd H (by simp)
    ·rw [if_neg c68] at H
     have c68b0 : (t116 == 3) = false := beq_eq_false_iff_ne.mpr c68
     have c68b1 : (t116 != 3) = true := bne_iff_ne.mpr c68
     simp only [Option.some.injEq, Prod.mk.injEq] at H
     obtain ⟨rfl, rfl, rfl, rfl, rfl⟩ := H
     obtain ⟨Ao95, co95, eo95⟩ := Kd.R_slice HO1_1.out
     subst eo95
     obtain ⟨Ao96, co96, eo96⟩ := Kd.R_slice HO1_2.out
     subst eo96
     go_enter Try.func226, Try.ntmps226
     go_wp2_with (first | ((with_reducible refine gate_dst (N := 3) rfl ?_); refine box_event ?hg (N := 3) ?hd (cs := #[.int .i64 a1_0, .slice Ao95 l1_1.length co95, .slice Ao96 l1_2.length co96]) (t := 26) ?hr ?_; (case hd => rfl); (case hg => rfl); (case hr => exact ZqT); intro gb114 hg w97 hbox hb; have n0_ := Aside0.mk (Kd.R_below (ZR HO1_1) hb); have n1_ := Aside0.mk (Kd.R_below (ZR HO1_2) hb); have n2_ := Aside0.mk (IsS176.below (by exact Zq3) hb); have n3_ := Aside0.mk (Kept.below (S := (fun k_ => (P1_1_ k_ ∨ P1_2_ k_) ∨ k_ = g)) (by exact Zq6) hb); have n4_ := Aside0.mk (below_step (by exact Zq4) hb); have n5_ := Aside0.mk (hbox); have n6_ := Aside0.mk ((by rw [hg]; exact (by first | exact HK.out.1 | exact (show Kept w _ (fun k_ => (P1_1_ k_ ∨ P1_2_ k_) ∨ k_ = g) from by exact Zq6).1) : w.heap.size ≤ gb114)); have n7_ := Aside0.mk ((by rw [hg]; exact (below_size (by exact Zq4)) : w0.heap.size ≤ gb114)); have n8_ := Aside0.mk ((by rw [hg]; exact Nat.ne_of_lt (IsS176.lt (show IsS176 w0 _ g s0_0 s0_1 s0_2 from by exact Zq3)) : g ≠ gb114)); have n9_ := Aside0.mk ((by rw [hg]; exact Nat.ne_of_gt (IsS176.lt (show IsS176 w0 _ g s0_0 s0_1 s0_2 from by exact Zq3)) : gb114 ≠ g)); clear HO1_1 HO1_2 HI0 HK HB; have HO1_1 := n0_; have HO1_2 := n1_; have HI0 := n2_; have HK := n3_; have HB := n4_; have BK114 := n5_; have GW114 := n6_; have GE114 := n7_; have NB0_114 := n8_; have NB114_0 := n9_; clear n0_ n1_ n2_ n3_ n4_ n5_ n6_ n7_ n8_ n9_; clear hb hbox hg) | ((with_reducible refine gate_dst (N := 4) rfl ?_); refine box_event ?hg (N := 4) ?hd (cs := #[.int .i64 0, .slice none 0 0, .slice none 0 0]) (t := 26) ?hr ?_; (case hd => rfl); (case hg => rfl); (case hr => exact ZqT); intro gb115 hg w98 hbox hb; have n0_ := Aside0.mk (Kd.R_below (ZR HO1_1) hb); have n1_ := Aside0.mk (Kd.R_below (ZR HO1_2) hb); have n2_ := Aside0.mk (IsS176.below (by exact Zq7) hb); have n3_ := ZL BK114 hb; have n4_ := Aside0.mk (Kept.below (S := (fun k_ => (P1_1_ k_ ∨ P1_2_ k_) ∨ k_ = g)) (by exact Zq8) hb); have n5_ := Aside0.mk (below_step (by exact Zq9) hb); have n6_ := Aside0.mk (hbox); have n7_ := Aside0.mk ((by rw [hg]; exact (by first | exact HK.out.1 | exact (show Kept w _ (fun k_ => (P1_1_ k_ ∨ P1_2_ k_) ∨ k_ = g) from by exact Zq8).1) : w.heap.size ≤ gb115)); have n8_ := Aside0.mk ((by rw [hg]; exact (below_size (by exact Zq9)) : w0.heap.size ≤ gb115)); have n9_ := Aside0.mk ((ZN hg BK114 : gb114 ≠ gb115)); have n10_ := Aside0.mk ((ZM hg BK114 : gb115 ≠ gb114)); have n11_ := Aside0.mk ((by rw [hg]; exact Nat.ne_of_lt (IsS176.lt (show IsS176 w0 _ g s0_0 s0_1 s0_2 from by exact Zq7)) : g ≠ gb115)); have n12_ := Aside0.mk ((by rw [hg]; exact Nat.ne_of_gt (IsS176.lt (show IsS176 w0 _ g s0_0 s0_1 s0_2 from by exact Zq7)) : gb115 ≠ g)); clear HO1_1 HO1_2 HI0 BK114 HK HB; have HO1_1 := n0_; have HO1_2 := n1_; have HI0 := n2_; have BK114 := n3_; have HK := n4_; have HB := n5_; have BK115 := n6_; have GW115 := n7_; have GE115 := n8_; have NB114_115 := n9_; have NB115_114 := n10_; have NB0_115 := n11_; have NB115_0 := n12_; clear n0_ n1_ n2_ n3_ n4_ n5_ n6_ n7_ n8_ n9_ n10_ n11_ n12_; clear hb hbox hg) | ((with_reducible refine gate_callee (f := 122) rfl ?_); refine goesL_ (some 6) rfl rfl Try.func122 (by kernel_rfl) rfl #[.pointer (some ⟨g, 0, none⟩), .int .i64 40] rfl ZA ?_; (with_reducible refine (spec_l01Next.calls g s0_0 s0_1 s0_2 40 t116 t117 t118 w0 _ ?side1 ?side2 A3.out).mono ?_); (case side1 => exact Zq10); (case side2 => exact Zq11); rintro e w99 ⟨rfl, hi, hb, hk⟩; refine ⟨_, rfl, ?_⟩; have n0_ := Aside0.mk (Kd.R_mono (Kd.R_keep (IsS176.apart (show IsS176 w0 _ g s0_0 s0_1 s0_2 from by exact Zq10) (ZR HO1_1) (by decide)) hk (fun _ h => h.2)) (fun _ h => h.1)); have n1_ := Aside0.mk (Kd.R_mono (Kd.R_keep (IsS176.apart (show IsS176 w0 _ g s0_0 s0_1 s0_2 from by exact Zq10) (ZR HO1_2) (by decide)) hk (fun _ h => h.2)) (fun _ h => h.1)); have n2_ := Aside0.mk (KeepBut.blk hk (g' := gb114) (o := .cells #[.int .i64 a1_0, .slice Ao95 l1_1.length co95, .slice Ao96 l1_2.length co96] 26 (0, 0)) (ZK BK114) NB114_0.out (by simp)); have n3_ := Aside0.mk (KeepBut.blk hk (g' := gb115) (o := .cells #[.int .i64 0, .slice none 0 0, .slice none 0 0] 26 (0, 0)) (ZK BK115) NB115_0.out (by simp)); have n4_ := Aside0.mk (Kept.of_keep (S := (fun k_ => (P1_1_ k_ ∨ P1_2_ k_) ∨ k_ = g)) (by exact Zq12) hk (.inl (.inr rfl))); have n5_ := Aside0.mk (hb); have n6_ := Aside0.mk (hi); clear HO1_1 HO1_2 BK114 BK115 HK HB HI0; have HO1_1 := n0_; have HO1_2 := n1_; have BK114 := n2_; have BK115 := n3_; have HK := n4_; have HB := n5_; have HI0 := n6_; clear n0_ n1_ n2_ n3_ n4_ n5_ n6_; (try clear hb); (try clear hk); (try clear hi); have hnb100 := NB114_115.out; have hnc100 := NB115_114.out; have hnb101 := NB114_0.out; have hnc101 := NB0_114.out; obtain ⟨hcz102_0, hcz102_1, hcz102_2, hfz102_0, hfz102_1, hfz102_2⟩ := ZD3 BK114; have hnb103 := NB115_0.out; have hnc103 := NB0_115.out; obtain ⟨hcz104_0, hcz104_1, hcz104_2, hfz104_0, hfz104_1, hfz104_2⟩ := ZD3 BK115))
     refine bodyPost_ret (results_cell_row rfl _ _ gb115 26 #[.int .i64 a1_0, .slice Ao95 l1_1.length co95, .slice Ao96 l1_2.length co96] (0, 0) _ rfl (by refine ZS ?_; refine blk_put (cs := #[.int .i64 a1_0, .slice Ao95 l1_1.length co95, .slice none 0 0]) ?_ 2 _ rfl; refine ZS ?_; refine blk_put (cs := #[.int .i64 a1_0, .slice none 0 0, .slice none 0 0]) ?_ 1 _ rfl; refine ZS ?_; refine blk_put (cs := #[.int .i64 0, .slice none 0 0, .slice none 0 0]) ?_ 0 _ rfl; refine ZS ?_; exact BK115.out) Try.underlying26 rfl (by kernel_rfl)) rfl ?_
     exact ⟨_, _, ZqR, by refine ZQ ?_; exact Kd.R_mono (Kd.R_far (p := ⟨gb115, 2, none⟩) (Kd.R_far (p := ⟨gb115, 1, none⟩) (Kd.R_far (p := ⟨gb115, 0, none⟩) (Kd.R_types HO1_1.out BK115.out (by decide)) (fun _ hk => hk.2) (.int .i64 a1_0)) (fun _ hk => hk.2) (.slice Ao95 l1_1.length co95)) (fun _ hk => hk.2) (.slice Ao96 l1_2.length co96)) (fun _ hk => (And.intro (hk.1.1) (hk.1.2))), by refine ZQ ?_; exact Kd.R_mono (Kd.R_far (p := ⟨gb115, 2, none⟩) (Kd.R_far (p := ⟨gb115, 1, none⟩) (Kd.R_far (p := ⟨gb115, 0, none⟩) (Kd.R_types HO1_2.out BK115.out (by decide)) (fun _ hk => hk.2) (.int .i64 a1_0)) (fun _ hk => hk.2) (.slice Ao95 l1_1.length co95)) (fun _ hk => hk.2) (.slice Ao96 l1_2.length co96)) (fun _ hk => (And.intro (hk.1.1) (hk.1.2))), by exact Zq10, by exact Zq11, by exact Zq12⟩

end Go.Proofs.Ytlodpobegdbhaaa.X
