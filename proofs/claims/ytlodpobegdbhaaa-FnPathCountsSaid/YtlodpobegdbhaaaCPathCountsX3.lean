/- Contracts of functions that the law reaches, printed by a program of this session; Lean checks them. -/
import Derived.Test.YtlodpobegdbhaaaCPathCountsX0
import Derived.Test.YtlodpobegdbhaaaCPathCountsX1
import Derived.Test.YtlodpobegdbhaaaCPathCountsX2
import Derived.Test.YtlodpobegdbhaaaCPathCountsXZ
namespace Go.Proofs.Ytlodpobegdbhaaa.X
open Go.RowKit Go.Proofs.YtlodpobegdbhaaaW.PrintWords Go.Proofs.YtlodpobegdbhaaaW.PrintLast Go.Proofs.YtlodpobegdbhaaaW.PrintMore
attribute [local go_sem] max2_int min2_int max_two min_two max_three min_three max_four min_four   -- for this text's walks alone
set_option linter.unusedVariables false
set_option linter.unusedSimpArgs false

/-! ### spec_l01DrawList: function 187 -/
def spec_l01DrawList.l0 : Nat → Int → Int → List Int → Int → List Int → Int → Int → Option (List Int × Int × Int)
 | 0, _, _, _, _, _, _, _ => none
 | k + 1, x1, x2, x7, x8, x1000, x1001, x1002 => if x2 > 0 then (if x8 = 0 then ((spec_l01Next.f x1000 x1001 x1002 x1).bind fun bt160 => (if x7.length < 17592186044416 then (spec_l01DrawList.l0 k x1 (wrap64 (x2 - 1)) (x7 ++ [bt160.1]) x8 x1000 bt160.2.1 bt160.2.2) else (none))) else ((spec_l01Next.f x1000 x1001 x1002 3).bind fun bt166 => (if bt166.1 > 0 then ((spec_l01Next.f x1000 bt166.2.1 bt166.2.2 x1).bind fun bt169 => (if x7.length < 17592186044416 then (spec_l01DrawList.l0 k x1 (wrap64 (x2 - 1)) (x7 ++ [bt169.1]) x8 x1000 bt169.2.1 bt169.2.2) else (none))) else (if x7.length < 17592186044416 then (spec_l01DrawList.l0 k x1 (wrap64 (x2 - 1)) (x7 ++ [0]) x8 x1000 bt166.2.1 bt166.2.2) else (none))))) else (some (x7, x1001, x1002))
def spec_l01DrawList.f (k : Nat) (s0_0 : List Int) (s0_1 : Int) (s0_2 : Int) (a1 : Int) (a2 : Int) : Option (List Int × Int × Int) := (spec_l01Next.f s0_0 s0_1 s0_2 3).bind fun bt157 => (spec_l01DrawList.l0 k a1 a2 (([] : List Int)) bt157.1 s0_0 bt157.2.1 bt157.2.2)
theorem spec_l01DrawList.mono_l : ∀ k, (∀ y0 y1 y2 y3 y4 y5 y6, LeO (spec_l01DrawList.l0 k y0 y1 y2 y3 y4 y5 y6) (spec_l01DrawList.l0 (k + 1) y0 y1 y2 y3 y4 y5 y6))
 | 0 => fun _ _ _ _ _ _ _ r h => by simp [spec_l01DrawList.l0] at h
 | k + 1 => by
  have ih0 := spec_l01DrawList.mono_l k
  ·intro y0 y1 y2 y3 y4 y5 y6
   unfold spec_l01DrawList.l0
   repeat' first
   | (with_reducible exact ih0 _ _ _ _ _ _ _)
   | (with_reducible exact LeO.refl _)
   | (with_reducible exact LeO.none _)
   | (with_reducible refine LeO.ite ?_ ?_)
   | (with_reducible refine LeO.bind ?_ (fun _ => ?_))
   | exact ih0 _ _ _ _ _ _ _
   | exact LeO.none _
   | refine LeO.ite ?_ ?_
   | refine LeO.bind ?_ (fun _ => ?_)
theorem spec_l01DrawList.mono : ∀ a0 a1 a2 a3 a4 k, LeO (spec_l01DrawList.f k a0 a1 a2 a3 a4) (spec_l01DrawList.f (k + 1) a0 a1 a2 a3 a4) := by
 intro a0 a1 a2 a3 a4 k
 have ih0 := spec_l01DrawList.mono_l k
 unfold spec_l01DrawList.f
 repeat' first
   | (with_reducible exact ih0 _ _ _ _ _ _ _)
   | (with_reducible exact LeO.refl _)
   | (with_reducible exact LeO.none _)
   | (with_reducible refine LeO.ite ?_ ?_)
   | (with_reducible refine LeO.bind ?_ (fun _ => ?_))
   | exact ih0 _ _ _ _ _ _ _
   | exact LeO.none _
   | refine LeO.ite ?_ ?_
   | refine LeO.bind ?_ (fun _ => ?_)
set_option maxHeartbeats 8000000 in
set_option maxRecDepth 100000 in
theorem spec_l01DrawList.calls (k : Nat) (g : Nat) (s0_0 : List Int) (s0_1 : Int) (s0_2 : Int) (a1 : Int) (a2 : Int) (r1 : List Int) (r2 : Int) (r3 : Int) (w0 w : World) (hI : IsS176 w0 w g s0_0 s0_1 s0_2) (hB : Below w0.heap.size w0 w) (h : spec_l01DrawList.f k s0_0 s0_1 s0_2 a1 a2 = some (r1, r2, r3)) :
  Calls Try.prog 187 #[.pointer (some ⟨g, 0, none⟩), .int .i64 a1, .int .i64 a2] w fun e w' => ∃ v0_ : Value, e = .returned (v0_) ∧ Kd.R (Kd.int .i64) 2 w' w.heap.size (fun _ => True) v0_ r1 ∧ IsS176 w0 w' g s0_0 r2 r3 ∧ Below w0.heap.size w0 w' ∧ KeepBut w w' g none := by
 have HI0 := Aside0.mk hI
 have HK := Aside0.mk (KeepBut.refl w g none)
 have HL := Aside0.mk hB.size
 clear hI
 have HW0 := Aside0.mk hB.size
 have HB := Aside0.mk hB
 clear hB
 have H : ((spec_l01Next.f s0_0 s0_1 s0_2 3).bind fun bt157 => (spec_l01DrawList.l0 k a1 a2 (([] : List Int)) bt157.1 s0_0 bt157.2.1 bt157.2.2)) = some (r1, r2, r3) := h
 clear h
 obtain ⟨y154, hy154⟩ : ∃ y_ : List Int, y_ = (([] : List Int)) := ⟨_, rfl⟩
 replace H : ((spec_l01Next.f s0_0 s0_1 s0_2 3).bind fun bt157 => (spec_l01DrawList.l0 k a1 a2 y154 bt157.1 s0_0 bt157.2.1 bt157.2.2)) = some (r1, r2, r3) := by have hq_ := hy154; exact ZqH
 have Ny154 := Aside0.mk hy154
 clear hy154
 replace H := Option.bind_eq_some_iff.mp H
 obtain ⟨⟨t157, t158, t159⟩, A40, H⟩ := H
 try dsimp only at H
 have A4 := Aside0.mk A40
 clear A40
 have H' := Aside0.mk H
 clear H
 go_enter Try.func187, Try.ntmps187
 go_wp2_with (first | ((with_reducible refine gate_dst (N := 9) rfl ?_); refine Kd.R_lit (Kd.int .i64) _ 2 ?hg (N := 9) ?hd (xs := ([] : List Int)) (inner := []) (ok := fun _ => True) (okp := fun _ => True) ?hr ?hp (fun _ hk => hk) trivial (Below.refl _ _) (Nat.le_refl _) (by simp) ?_; (case hd => rfl); (case hg => rfl); (case hr => exact ZqT); (case hp => exact (Reps.none _ _)); intro v155 w5 ho6 hb hg_ hnew_; clear hg_ hnew_; (first | rw [← Ny154.out] at ho6 | (simp only [Int.reduceToNat] at ho6; rw [← Ny154.out] at ho6)); have n0_ := Aside0.mk (Kd.R_lower ho6 (keep_size (w := w) (g := g) (row := none) (by exact Zq5))); have n1_ := Aside0.mk (IsS176.below (by exact Zq3) hb); have n2_ := Aside0.mk (KeepBut.trans (by exact Zq5) (KeepBut.of_below hb g none) (.inl rfl)); have n3_ := Aside0.mk (below_step (by exact Zq4) hb); clear HI0 HK HB; have HO156 := n0_; have HI0 := n1_; have HK := n2_; have HB := n3_; clear n0_ n1_ n2_ n3_; clear hb ho6) | ((with_reducible refine gate_callee (f := 122) rfl ?_); refine goesL_ (some 11) rfl rfl Try.func122 (by kernel_rfl) rfl #[.pointer (some ⟨g, 0, none⟩), .int .i64 3] rfl ZA ?_; (with_reducible refine (spec_l01Next.calls g s0_0 s0_1 s0_2 3 t157 t158 t159 w0 _ ?side1 ?side2 A4.out).mono ?_); (case side1 => exact Zq3); (case side2 => exact Zq4); rintro e w7 ⟨rfl, hi, hb, hk⟩; refine ⟨_, rfl, ?_⟩; have n0_ := Aside0.mk (Kd.R_mono (Kd.R_keep (IsS176.apart (show IsS176 w0 _ g s0_0 s0_1 s0_2 from by exact Zq3) (ZR HO156) (by decide)) hk (fun _ h => h.2)) (fun _ h => h.1)); have n1_ := Aside0.mk (KeepBut.trans (by exact Zq5) hk (.inl rfl)); have n2_ := Aside0.mk (hb); have n3_ := Aside0.mk (hi); clear HO156 HK HB HI0; have HO156 := n0_; have HK := n1_; have HB := n2_; have HI0 := n3_; clear n0_ n1_ n2_ n3_; (try clear hb); (try clear hk); (try clear hi)))
 go_loopg [2, 7] k (fun kq v2 v7 w' => ∃ (x2_1 : Int) (x7_1 : List Int) (x1001_1 : Int) (x1002_1 : Int), v2 = .int .i64 x2_1 ∧ Aside0 (spec_l01DrawList.l0 kq a1 x2_1 x7_1 t157 s0_0 x1001_1 x1002_1 = some (r1, r2, r3)) ∧ Aside0 (kq ≤ k) ∧ Aside0 (Kd.R (Kd.int .i64) 2 w' w.heap.size (fun _ => True) v7 x7_1) ∧ Aside0 (IsS176 w0 w' g s0_0 x1001_1 x1002_1) ∧ Aside0 (KeepBut w w' g none) ∧ Aside0 (Below w0.heap.size w0 w'))
 case atStart => exact ⟨(a2), (y154), (t158), (t159), (ZqS), H', ⟨Nat.le_refl _⟩, ⟨ZR HO156⟩, ⟨by exact Zq3⟩, ⟨by exact Zq5⟩, ⟨by exact Zq4⟩⟩
 case round =>
  clear H'
  try clear c1
  try clear p2
  obtain ⟨x2_1, x7_1, x1001_1, x1002_1, rfl, HA, HK1, HO_7, HI0, HK, HB⟩ := hrel
  cases gk with
  | zero => exact absurd HA.out (by simp [spec_l01DrawList.l0])
  | succ k1 =>
   have H := HA.out
   clear HA
   simp only [spec_l01DrawList.l0] at H
   by_cases c8 : x2_1 > 0
   ·rw [if_pos c8] at H
    have c8b0 : decide (0 < x2_1) = true := decide_eq_true c8
    clear c8
    by_cases c9 : t157 = 0
    ·rw [if_pos c9] at H
     have c9b0 : (t157 == 0) = true := beq_iff_eq.mpr c9
     have c9b1 : (t157 != 0) = false := bne_eq_false_iff_eq.mpr c9
     clear c9
     replace H := Option.bind_eq_some_iff.mp H
     obtain ⟨⟨t160, t161, t162⟩, A100, H⟩ := H
     try dsimp only at H
     have A10 := Aside0.mk A100
     clear A100
     by_cases c11 : x7_1.length < 17592186044416
     ·rw [if_pos c11] at H
      have LMc11 := Aside0.mk c11
      clear c11
      obtain ⟨y163, hy163⟩ : ∃ y_ : List Int, y_ = (x7_1 ++ [t160]) := ⟨_, rfl⟩
      replace H : (spec_l01DrawList.l0 k1 a1 (wrap64 (x2_1 - 1)) y163 t157 s0_0 t161 t162) = some (r1, r2, r3) := by have hq_ := hy163; exact ZqH
      have Ny163 := Aside0.mk hy163
      clear hy163
      have H' := Aside0.mk H
      clear H
      go_wp2_with (first | ((with_reducible refine gate_callee (f := 122) rfl ?_); refine goesL_ (some 26) rfl rfl Try.func122 (by kernel_rfl) rfl #[.pointer (some ⟨g, 0, none⟩), .int .i64 a1] rfl ZA ?_; (with_reducible refine (spec_l01Next.calls g s0_0 x1001_1 x1002_1 a1 t160 t161 t162 w0 _ ?side1 ?side2 A10.out).mono ?_); (case side1 => exact Zq3); (case side2 => exact Zq4); rintro e w12 ⟨rfl, hi, hb, hk⟩; refine ⟨_, rfl, ?_⟩; have n0_ := Aside0.mk (Kd.R_mono (Kd.R_keep (IsS176.apart (show IsS176 w0 _ g s0_0 x1001_1 x1002_1 from by exact Zq3) (ZR HO_7) (by decide)) hk (fun _ h => h.2)) (fun _ h => h.1)); have n1_ := Aside0.mk (KeepBut.trans (by exact Zq5) hk (.inl rfl)); have n2_ := Aside0.mk (hb); have n3_ := Aside0.mk (hi); clear HO_7 HK HB HI0; have HO_7 := n0_; have HK := n1_; have HB := n2_; have HI0 := n3_; clear n0_ n1_ n2_ n3_; (try clear hb); (try clear hk); (try clear hi)) | ((with_reducible refine gate_builtin (b := .append) (xs := #[.tmp 23, .tmp 27]) rfl ?_); at_builtin; refine Kd.R_append (Kd.int .i64) w.heap.size rfl (.tmp 23) (.tmp 27) 24 2 (.int .i64 0) 8 rfl Try.underlying24 info2 rfl (by decide) (by omega) u7 x7_1 t160 [.int .i64 t160] (fun _ => True) (fun _ => False) rfl rfl ?aP (fun _ hk => hk.elim) ?aF ?aO (Below.refl _ _) ?aS ?aL ?_; (case aP => exact rfl); (case aF => exact (fun _ _ => trivial)); (case aO => exact (ZR HO_7)); (case aS => exact (keep_size (w := w) (g := g) (row := none) (by exact Zq5))); (case aL => have := LMc11.out; omega); intro v164 w13 ho hb hg hat; rw [← Ny163.out] at ho; have n0_ := Aside0.mk (IsS176.grown (by exact Zq3) hg (IsS176.own_ne HI0.out HO_7.out (by decide))); have n1_ := Aside0.mk (below_weaken (by exact Zq4) HL.out hb); have n2_ := Aside0.mk (KeepBut.trans (by exact Zq5) (KeepBut.of_grown hg g) (Kd.R_base2 HO_7.out)); have n3_ := Aside0.mk (ho); clear HI0 HB HK HO_7; have HI0 := n0_; have HB := n1_; have HK := n2_; have HO165 := n3_; clear n0_ n1_ n2_ n3_; clear ho hb hg hat))
      go_roundg k1
      case measure => have := HK1.out; omega
      case rel => exact ⟨(wrap64 (x2_1 - 1)), (y163), (t161), (t162), (ZqS), H', ⟨by have := HK1.out; omega⟩, ⟨ZR HO165⟩, ⟨by exact Zq3⟩, ⟨by exact Zq5⟩, ⟨by exact Zq4⟩⟩
     ·rw [if_neg c11] at H
      exact absurd H (by simp)
    ·rw [if_neg c9] at H
     have c9b0 : (t157 == 0) = false := beq_eq_false_iff_ne.mpr c9
     have c9b1 : (t157 != 0) = true := bne_iff_ne.mpr c9
     replace H := Option.bind_eq_some_iff.mp H
     obtain ⟨⟨t166, t167, t168⟩, A140, H⟩ := H
     try dsimp only at H
     have A14 := Aside0.mk A140
     clear A140
     by_cases c15 : t166 > 0
     ·rw [if_pos c15] at H
      have c15b0 : decide (0 < t166) = true := decide_eq_true c15
      clear c15
      replace H := Option.bind_eq_some_iff.mp H
      obtain ⟨⟨t169, t170, t171⟩, A160, H⟩ := H
      try dsimp only at H
      have A16 := Aside0.mk A160
      clear A160
      by_cases c17 : x7_1.length < 17592186044416
      ·rw [if_pos c17] at H
       have LMc17 := Aside0.mk c17
       clear c17
       obtain ⟨y172, hy172⟩ : ∃ y_ : List Int, y_ = (x7_1 ++ [t169]) := ⟨_, rfl⟩
       replace H : (spec_l01DrawList.l0 k1 a1 (wrap64 (x2_1 - 1)) y172 t157 s0_0 t170 t171) = some (r1, r2, r3) := by have hq_ := hy172; exact ZqH
       have Ny172 := Aside0.mk hy172
       clear hy172
       have H' := Aside0.mk H
       clear H
       go_wp2_with (first | (go_at_call 122; (with_reducible refine (spec_l01Next.calls g s0_0 x1001_1 x1002_1 3 t166 t167 t168 w0 _ ?side1 ?side2 A14.out).mono ?_); (case side1 => exact Zq3); (case side2 => exact Zq4); rintro e w18 ⟨rfl, hi, hb, hk⟩; have n0_ := Aside0.mk (Kd.R_mono (Kd.R_keep (IsS176.apart (show IsS176 w0 _ g s0_0 x1001_1 x1002_1 from by exact Zq3) (ZR HO_7) (by decide)) hk (fun _ h => h.2)) (fun _ h => h.1)); have n1_ := Aside0.mk (KeepBut.trans (by exact Zq5) hk (.inl rfl)); have n2_ := Aside0.mk (hb); have n3_ := Aside0.mk (hi); clear HO_7 HK HB HI0; have HO_7 := n0_; have HK := n1_; have HB := n2_; have HI0 := n3_; clear n0_ n1_ n2_ n3_; (try clear hb); (try clear hk); (try clear hi)) | ((with_reducible refine gate_callee (f := 122) rfl ?_); refine goesL_ (some 26) rfl rfl Try.func122 (by kernel_rfl) rfl #[.pointer (some ⟨g, 0, none⟩), .int .i64 a1] rfl ZA ?_; (with_reducible refine (spec_l01Next.calls g s0_0 t167 t168 a1 t169 t170 t171 w0 _ ?side1 ?side2 A16.out).mono ?_); (case side1 => exact Zq3); (case side2 => exact Zq4); rintro e w19 ⟨rfl, hi, hb, hk⟩; refine ⟨_, rfl, ?_⟩; have n0_ := Aside0.mk (Kd.R_mono (Kd.R_keep (IsS176.apart (show IsS176 w0 _ g s0_0 t167 t168 from by exact Zq3) (ZR HO_7) (by decide)) hk (fun _ h => h.2)) (fun _ h => h.1)); have n1_ := Aside0.mk (KeepBut.trans (by exact Zq5) hk (.inl rfl)); have n2_ := Aside0.mk (hb); have n3_ := Aside0.mk (hi); clear HO_7 HK HB HI0; have HO_7 := n0_; have HK := n1_; have HB := n2_; have HI0 := n3_; clear n0_ n1_ n2_ n3_; (try clear hb); (try clear hk); (try clear hi)) | ((with_reducible refine gate_builtin (b := .append) (xs := #[.tmp 23, .tmp 27]) rfl ?_); at_builtin; refine Kd.R_append (Kd.int .i64) w.heap.size rfl (.tmp 23) (.tmp 27) 24 2 (.int .i64 0) 8 rfl Try.underlying24 info2 rfl (by decide) (by omega) u7 x7_1 t169 [.int .i64 t169] (fun _ => True) (fun _ => False) rfl rfl ?aP (fun _ hk => hk.elim) ?aF ?aO (Below.refl _ _) ?aS ?aL ?_; (case aP => exact rfl); (case aF => exact (fun _ _ => trivial)); (case aO => exact (ZR HO_7)); (case aS => exact (keep_size (w := w) (g := g) (row := none) (by exact Zq5))); (case aL => have := LMc17.out; omega); intro v173 w20 ho hb hg hat; rw [← Ny172.out] at ho; have n0_ := Aside0.mk (IsS176.grown (by exact Zq3) hg (IsS176.own_ne HI0.out HO_7.out (by decide))); have n1_ := Aside0.mk (below_weaken (by exact Zq4) HL.out hb); have n2_ := Aside0.mk (KeepBut.trans (by exact Zq5) (KeepBut.of_grown hg g) (Kd.R_base2 HO_7.out)); have n3_ := Aside0.mk (ho); clear HI0 HB HK HO_7; have HI0 := n0_; have HB := n1_; have HK := n2_; have HO174 := n3_; clear n0_ n1_ n2_ n3_; clear ho hb hg hat))
       go_roundg k1
       case measure => have := HK1.out; omega
       case rel => exact ⟨(wrap64 (x2_1 - 1)), (y172), (t170), (t171), (ZqS), H', ⟨by have := HK1.out; omega⟩, ⟨ZR HO174⟩, ⟨by exact Zq3⟩, ⟨by exact Zq5⟩, ⟨by exact Zq4⟩⟩
      ·rw [if_neg c17] at H
       exact absurd H (by simp)
     ·rw [if_neg c15] at H
      have c15b0 : decide (0 < t166) = false := decide_eq_false c15
      clear c15
      by_cases c21 : x7_1.length < 17592186044416
      ·rw [if_pos c21] at H
       have LMc21 := Aside0.mk c21
       clear c21
       obtain ⟨y175, hy175⟩ : ∃ y_ : List Int, y_ = (x7_1 ++ [0]) := ⟨_, rfl⟩
       replace H : (spec_l01DrawList.l0 k1 a1 (wrap64 (x2_1 - 1)) y175 t157 s0_0 t167 t168) = some (r1, r2, r3) := by have hq_ := hy175; exact ZqH
       have Ny175 := Aside0.mk hy175
       clear hy175
       have H' := Aside0.mk H
       clear H
       go_wp2_with (first | (go_at_call 122; (with_reducible refine (spec_l01Next.calls g s0_0 x1001_1 x1002_1 3 t166 t167 t168 w0 _ ?side1 ?side2 A14.out).mono ?_); (case side1 => exact Zq3); (case side2 => exact Zq4); rintro e w22 ⟨rfl, hi, hb, hk⟩; have n0_ := Aside0.mk (Kd.R_mono (Kd.R_keep (IsS176.apart (show IsS176 w0 _ g s0_0 x1001_1 x1002_1 from by exact Zq3) (ZR HO_7) (by decide)) hk (fun _ h => h.2)) (fun _ h => h.1)); have n1_ := Aside0.mk (KeepBut.trans (by exact Zq5) hk (.inl rfl)); have n2_ := Aside0.mk (hb); have n3_ := Aside0.mk (hi); clear HO_7 HK HB HI0; have HO_7 := n0_; have HK := n1_; have HB := n2_; have HI0 := n3_; clear n0_ n1_ n2_ n3_; (try clear hb); (try clear hk); (try clear hi)) | ((with_reducible refine gate_builtin (b := .append) (xs := #[.tmp 29, .tmp 30]) rfl ?_); at_builtin; refine Kd.R_append (Kd.int .i64) w.heap.size rfl (.tmp 29) (.tmp 30) 24 2 (.int .i64 0) 8 rfl Try.underlying24 info2 rfl (by decide) (by omega) u7 x7_1 0 [.int .i64 0] (fun _ => True) (fun _ => False) rfl rfl ?aP (fun _ hk => hk.elim) ?aF ?aO (Below.refl _ _) ?aS ?aL ?_; (case aP => exact rfl); (case aF => exact (fun _ _ => trivial)); (case aO => exact (ZR HO_7)); (case aS => exact (keep_size (w := w) (g := g) (row := none) (by exact Zq5))); (case aL => have := LMc21.out; omega); intro v176 w23 ho hb hg hat; rw [← Ny175.out] at ho; have n0_ := Aside0.mk (IsS176.grown (by exact Zq3) hg (IsS176.own_ne HI0.out HO_7.out (by decide))); have n1_ := Aside0.mk (below_weaken (by exact Zq4) HL.out hb); have n2_ := Aside0.mk (KeepBut.trans (by exact Zq5) (KeepBut.of_grown hg g) (Kd.R_base2 HO_7.out)); have n3_ := Aside0.mk (ho); clear HI0 HB HK HO_7; have HI0 := n0_; have HB := n1_; have HK := n2_; have HO177 := n3_; clear n0_ n1_ n2_ n3_; clear ho hb hg hat))
       go_roundg k1
       case measure => have := HK1.out; omega
       case rel => exact ⟨(wrap64 (x2_1 - 1)), (y175), (t167), (t168), (ZqS), H', ⟨by have := HK1.out; omega⟩, ⟨ZR HO177⟩, ⟨by exact Zq3⟩, ⟨by exact Zq5⟩, ⟨by exact Zq4⟩⟩
      ·rw [if_neg c21] at H
       exact absurd H (by simp)
   ·rw [if_neg c8] at H
    have c8b0 : decide (0 < x2_1) = false := decide_eq_false c8
    clear c8
    simp only [Option.some.injEq, Prod.mk.injEq] at H
    obtain ⟨rfl, rfl, rfl⟩ := H
    go_wp2
    go_ret
    exact ⟨_, ZqR, by refine ZQ ?_; exact HO_7.out, by exact Zq3, by exact Zq4, by exact Zq5⟩

/-! ### spec_l03DrawOf: function 178 -/
def spec_l03DrawOf.l0 : Nat → Int → Int → List Int → Int → Int → Int → List Int → List Int → Option (Int × List Int × List Int × Int × Int)
 | 0, _, _, _, _, _, _, _, _ => none
 | k + 1, x1, x7, x1000, x1001, x1002, x191000, x191001, x191002 => if x7 > 0 then ((spec_l01Next.f x1000 x1001 x1002 (wrap64 (x1 - 1))).bind fun bt191 => (if x191002.length < 17592186044416 then (spec_l03DrawOf.l0 k x1 (wrap64 (x7 - 1)) x1000 bt191.2.1 bt191.2.2 x191000 x191001 (x191002 ++ [wrap64 (1 + bt191.1)])) else (none))) else ((spec_l01Next.f x1000 x1001 x1002 6).bind fun bt197 => (if bt197.1 = 0 then (if 0 ≤ (x191001.length : Int) then (if ((x191001.length : Int) : Int).toNat ≤ 35184372088832 then (some (x191000, (List.replicate ((x191001.length : Int) : Int).toNat 0), x191002, bt197.2.1, bt197.2.2)) else (none)) else (none)) else (some (x191000, x191001, x191002, bt197.2.1, bt197.2.2))))
def spec_l03DrawOf.f (k : Nat) (s0_0 : List Int) (s0_1 : Int) (s0_2 : Int) (a1 : Int) (a2 : Int) : Option (Int × List Int × List Int × Int × Int) := (spec_l01Next.f s0_0 s0_1 s0_2 a2).bind fun bt179 => ((spec_l01DrawList.f k s0_0 bt179.2.1 bt179.2.2 a1 (wrap64 (1 + bt179.1))).bind fun bt182 => (spec_l03DrawOf.l0 k a1 (wrap64 (1 + bt179.1)) s0_0 bt182.2.1 bt182.2.2 a1 bt182.1 (([] : List Int))))
theorem spec_l03DrawOf.mono_l : ∀ k, (∀ y0 y1 y2 y3 y4 y5 y6 y7, LeO (spec_l03DrawOf.l0 k y0 y1 y2 y3 y4 y5 y6 y7) (spec_l03DrawOf.l0 (k + 1) y0 y1 y2 y3 y4 y5 y6 y7))
 | 0 => fun _ _ _ _ _ _ _ _ r h => by simp [spec_l03DrawOf.l0] at h
 | k + 1 => by
  have ih0 := spec_l03DrawOf.mono_l k
  ·intro y0 y1 y2 y3 y4 y5 y6 y7
   unfold spec_l03DrawOf.l0
   repeat' first
   | (with_reducible exact ih0 _ _ _ _ _ _ _ _)
   | (with_reducible exact spec_l01DrawList.mono _ _ _ _ _ _)
   | (with_reducible exact LeO.refl _)
   | (with_reducible exact LeO.none _)
   | (with_reducible refine LeO.ite ?_ ?_)
   | (with_reducible refine LeO.bind ?_ (fun _ => ?_))
   | exact ih0 _ _ _ _ _ _ _ _
   | exact spec_l01DrawList.mono _ _ _ _ _ _
   | exact LeO.none _
   | refine LeO.ite ?_ ?_
   | refine LeO.bind ?_ (fun _ => ?_)
theorem spec_l03DrawOf.mono : ∀ a0 a1 a2 a3 a4 k, LeO (spec_l03DrawOf.f k a0 a1 a2 a3 a4) (spec_l03DrawOf.f (k + 1) a0 a1 a2 a3 a4) := by
 intro a0 a1 a2 a3 a4 k
 have ih0 := spec_l03DrawOf.mono_l k
 unfold spec_l03DrawOf.f
 repeat' first
   | (with_reducible exact ih0 _ _ _ _ _ _ _ _)
   | (with_reducible exact spec_l01DrawList.mono _ _ _ _ _ _)
   | (with_reducible exact LeO.refl _)
   | (with_reducible exact LeO.none _)
   | (with_reducible refine LeO.ite ?_ ?_)
   | (with_reducible refine LeO.bind ?_ (fun _ => ?_))
   | exact ih0 _ _ _ _ _ _ _ _
   | exact spec_l01DrawList.mono _ _ _ _ _ _
   | exact LeO.none _
   | refine LeO.ite ?_ ?_
   | refine LeO.bind ?_ (fun _ => ?_)
def spec_l03DrawOf.T5 : Bool × List (List Nat × List Nat) := (true, [([], []), ([0], [0]), ([], []), ([], []), ([3], [3]), ([2, 4], [2, 4]), ([5], [5]), ([6], [6]), ([1, 7, 5], [1, 7]), ([0, 1, 2, 3, 4, 5, 6, 7, 8], []), ([9, 8, 8, 0, 1, 2, 3, 4, 5, 6, 7, 8], [8, 9])])
def spec_l03DrawOf.B5 : List Nat := [0, 1, 0, 0, 8, 28, 60, 124, 255, 511, 1023]
theorem spec_l03DrawOf.tab5 : rtab .any (opsOf Try.f178 5) = spec_l03DrawOf.T5 := by kernel_rfl
theorem spec_l03DrawOf.bits5 : waitsOk spec_l03DrawOf.T5.2 spec_l03DrawOf.B5 = true := by kernel_rfl
set_option maxHeartbeats 8000000 in
set_option maxRecDepth 100000 in
theorem spec_l03DrawOf.calls (k : Nat) (g : Nat) (s0_0 : List Int) (s0_1 : Int) (s0_2 : Int) (a1 : Int) (a2 : Int) (r1 : Int) (r2 : List Int) (r3 : List Int) (r4 : Int) (r5 : Int) (w0 w : World) (hI : IsS176 w0 w g s0_0 s0_1 s0_2) (hB : Below w0.heap.size w0 w) (h : spec_l03DrawOf.f k s0_0 s0_1 s0_2 a1 a2 = some (r1, r2, r3, r4, r5)) :
  Calls Try.prog 178 #[.pointer (some ⟨g, 0, none⟩), .int .i64 a1, .int .i64 a2] w fun e w' => ∃ v1_ v2_ : Value, e = .returned (.agg #[.int .i64 r1, v1_, v2_]) ∧ Kd.R (Kd.int .i64) 2 w' w.heap.size (fun k_ => some k_ ≠ (v2_ : Value).ownBlock) v1_ r2 ∧ Kd.R (Kd.int .i64) 2 w' w.heap.size (fun k_ => some k_ ≠ (v1_ : Value).ownBlock) v2_ r3 ∧ IsS176 w0 w' g s0_0 r4 r5 ∧ Below w0.heap.size w0 w' ∧ KeepBut w w' g none := by
 have hu26 := Try.underlying26
 have HI0 := Aside0.mk hI
 have HK := Aside0.mk (KeepBut.refl w g none)
 have HL := Aside0.mk hB.size
 clear hI
 have HW0 := Aside0.mk hB.size
 have HB := Aside0.mk hB
 clear hB
 have H : ((spec_l01Next.f s0_0 s0_1 s0_2 a2).bind fun bt179 => ((spec_l01DrawList.f k s0_0 bt179.2.1 bt179.2.2 a1 (wrap64 (1 + bt179.1))).bind fun bt182 => (spec_l03DrawOf.l0 k a1 (wrap64 (1 + bt179.1)) s0_0 bt182.2.1 bt182.2.2 a1 bt182.1 (([] : List Int))))) = some (r1, r2, r3, r4, r5) := h
 clear h
 replace H := Option.bind_eq_some_iff.mp H
 obtain ⟨⟨t179, t180, t181⟩, A40, H⟩ := H
 try dsimp only at H
 have A4 := Aside0.mk A40
 clear A40
 replace H := Option.bind_eq_some_iff.mp H
 obtain ⟨⟨t182, t185, t186⟩, A50, H⟩ := H
 try dsimp only at H
 have A5 := Aside0.mk A50
 clear A50
 obtain ⟨y187, hy187⟩ : ∃ y_ : List Int, y_ = (([] : List Int)) := ⟨_, rfl⟩
 replace H : (spec_l03DrawOf.l0 k a1 (wrap64 (1 + t179)) s0_0 t185 t186 a1 t182 y187) = some (r1, r2, r3, r4, r5) := by have hq_ := hy187; exact ZqH
 have Ny187 := Aside0.mk hy187
 clear hy187
 have H' := Aside0.mk H
 clear H
 go_enter Try.func178, Try.ntmps178
 go_wp2_with (first | ((with_reducible refine gate_dst (N := 6) rfl ?_); refine box_event ?hg (N := 6) ?hd (cs := #[.int .i64 0, .slice none 0 0, .slice none 0 0]) (t := 26) ?hr ?_; (case hd => rfl); (case hg => rfl); (case hr => exact ZqT); intro gb178 hg w6 hbox hb; have n0_ := Aside0.mk (IsS176.below (by exact Zq3) hb); have n1_ := Aside0.mk (KeepBut.trans (by exact Zq5) (KeepBut.of_below hb g none) (.inl rfl)); have n2_ := Aside0.mk (below_step (by exact Zq4) hb); have n3_ := Aside0.mk (hbox); have n4_ := Aside0.mk ((by rw [hg]; exact (keep_size (w := w) (g := g) (row := none) (by exact Zq5)) : w.heap.size ≤ gb178)); have n5_ := Aside0.mk ((Nat.le_trans HW0.out (by rw [hg]; exact (keep_size (w := w) (g := g) (row := none) (by exact Zq5)) : w.heap.size ≤ gb178) : w0.heap.size ≤ gb178)); have n6_ := Aside0.mk ((by rw [hg]; exact Nat.ne_of_lt (IsS176.lt (show IsS176 w0 _ g s0_0 s0_1 s0_2 from by exact Zq3)) : g ≠ gb178)); have n7_ := Aside0.mk ((by rw [hg]; exact Nat.ne_of_gt (IsS176.lt (show IsS176 w0 _ g s0_0 s0_1 s0_2 from by exact Zq3)) : gb178 ≠ g)); clear HI0 HK HB; have HI0 := n0_; have HK := n1_; have HB := n2_; have BK178 := n3_; have GW178 := n4_; have GE178 := n5_; have NB0_178 := n6_; have NB178_0 := n7_; clear n0_ n1_ n2_ n3_ n4_ n5_ n6_ n7_; clear hb hbox hg) | ((with_reducible refine gate_callee (f := 122) rfl ?_); refine goesL_ (some 11) rfl rfl Try.func122 (by kernel_rfl) rfl #[.pointer (some ⟨g, 0, none⟩), .int .i64 a2] rfl ZA ?_; (with_reducible refine (spec_l01Next.calls g s0_0 s0_1 s0_2 a2 t179 t180 t181 w0 _ ?side1 ?side2 A4.out).mono ?_); (case side1 => exact Zq19); (case side2 => exact Zq20); rintro e w7 ⟨rfl, hi, hb, hk⟩; refine ⟨_, rfl, ?_⟩; have n0_ := Aside0.mk (KeepBut.blk hk (g' := gb178) (o := .cells #[.int .i64 0, .slice none 0 0, .slice none 0 0] 26 (0, 0)) (ZK BK178) NB178_0.out (by simp)); have n1_ := Aside0.mk (KeepBut.trans (by exact Zq21) hk (.inl rfl)); have n2_ := Aside0.mk (hb); have n3_ := Aside0.mk (hi); clear BK178 HK HB HI0; have BK178 := n0_; have HK := n1_; have HB := n2_; have HI0 := n3_; clear n0_ n1_ n2_ n3_; (try clear hb); (try clear hk); (try clear hi)) | ((with_reducible refine gate_callee (f := 187) rfl ?_); refine goesL_ (some 17) rfl rfl Try.func187 (by kernel_rfl) rfl #[.pointer (some ⟨g, 0, none⟩), .int .i64 a1, .int .i64 (wrap64 (1 + t179))] rfl ZA ?_; (with_reducible refine (spec_l01DrawList.calls k g s0_0 t180 t181 a1 (wrap64 (1 + t179)) t182 t185 t186 w0 _ ?side1 ?side2 A5.out).mono ?_); (case side1 => exact Zq19); (case side2 => exact Zq20); rintro e w8 ⟨v183, rfl, ho0, hi, hb, hk⟩; refine ⟨_, rfl, ?_⟩; have n0_ := Aside0.mk (KeepBut.blk hk (g' := gb178) (o := .cells #[.int .i64 0, .slice none 0 0, .slice none 0 0] 26 (0, 0)) (ZK BK178) NB178_0.out (by simp)); have n1_ := Aside0.mk (Kd.R_lower ho0 (keep_size (w := w) (g := g) (row := none) (by exact Zq21))); have n2_ := Aside0.mk (KeepBut.trans (by exact Zq21) hk (.inl rfl)); have n3_ := Aside0.mk (hb); have n4_ := Aside0.mk (hi); clear BK178 HK HB HI0; have BK178 := n0_; have HO184 := n1_; have HK := n2_; have HB := n3_; have HI0 := n4_; clear n0_ n1_ n2_ n3_ n4_; (try clear hb); (try clear hk); (try clear hi); (try clear ho0)) | ((with_reducible refine gate_dst (N := 18) rfl ?_); refine Kd.R_lit (Kd.int .i64) _ 2 ?hg (N := 18) ?hd (xs := ([] : List Int)) (inner := []) (ok := fun _ => True) (okp := fun _ => True) ?hr ?hp (fun _ hk => hk) trivial (Below.refl _ _) (Nat.le_refl _) (by simp) ?_; (case hd => rfl); (case hg => rfl); (case hr => exact ZqT); (case hp => exact (Reps.none _ _)); intro v188 w9 ho10 hb hg_ hnew_; clear hg_ hnew_; (first | rw [← Ny187.out] at ho10 | (simp only [Int.reduceToNat] at ho10; rw [← Ny187.out] at ho10)); have n0_ := Aside0.mk (Kd.R_elder' (ZR HO184) (Kd.R_base ho10) hb); have n1_ := Aside0.mk (Kd.R_lower (Kd.R_new' ho10 (Kd.R_lt (ZR HO184))) (keep_size (w := w) (g := g) (row := none) (by exact Zq21))); have n2_ := Aside0.mk (IsS176.below (by exact Zq19) hb); have n3_ := ZL BK178 hb; have n4_ := Aside0.mk (KeepBut.trans (by exact Zq21) (KeepBut.of_below hb g none) (.inl rfl)); have n5_ := Aside0.mk (below_step (by exact Zq20) hb); clear HO184 HI0 BK178 HK HB; have HO184 := n0_; have HO189 := n1_; have HI0 := n2_; have BK178 := n3_; have HK := n4_; have HB := n5_; clear n0_ n1_ n2_ n3_ n4_ n5_; clear hb ho10; obtain ⟨Ao11, co11, eo11⟩ := Kd.R_slice HO189.out; subst eo11; obtain ⟨Ao12, co12, eo12⟩ := Kd.R_slice HO184.out; subst eo12) | ((with_reducible refine gate_dst (N := 8) rfl ?_); refine box_event ?hg (N := 8) ?hd (cs := #[.int .i64 0, .slice none 0 0, .slice none 0 0]) (t := 26) ?hr ?_; (case hd => rfl); (case hg => rfl); (case hr => exact ZqT); intro gb190 hg w13 hbox hb; have n0_ := Aside0.mk (Kd.R_below (ZR HO184) hb); have n1_ := Aside0.mk (Kd.R_below (ZR HO189) hb); have n2_ := Aside0.mk (IsS176.below (by exact Zq19) hb); have n3_ := ZL BK178 hb; have n4_ := Aside0.mk (KeepBut.trans (by exact Zq21) (KeepBut.of_below hb g none) (.inl rfl)); have n5_ := Aside0.mk (below_step (by exact Zq20) hb); have n6_ := Aside0.mk (hbox); have n7_ := Aside0.mk ((by rw [hg]; exact (keep_size (w := w) (g := g) (row := none) (by exact Zq21)) : w.heap.size ≤ gb190)); have n8_ := Aside0.mk ((Nat.le_trans HW0.out (by rw [hg]; exact (keep_size (w := w) (g := g) (row := none) (by exact Zq21)) : w.heap.size ≤ gb190) : w0.heap.size ≤ gb190)); have n9_ := Aside0.mk ((ZN hg BK178 : gb178 ≠ gb190)); have n10_ := Aside0.mk ((ZM hg BK178 : gb190 ≠ gb178)); have n11_ := Aside0.mk ((by rw [hg]; exact Nat.ne_of_lt (IsS176.lt (show IsS176 w0 _ g s0_0 t185 t186 from by exact Zq19)) : g ≠ gb190)); have n12_ := Aside0.mk ((by rw [hg]; exact Nat.ne_of_gt (IsS176.lt (show IsS176 w0 _ g s0_0 t185 t186 from by exact Zq19)) : gb190 ≠ g)); clear HO184 HO189 HI0 BK178 HK HB; have HO184 := n0_; have HO189 := n1_; have HI0 := n2_; have BK178 := n3_; have HK := n4_; have HB := n5_; have BK190 := n6_; have GW190 := n7_; have GE190 := n8_; have NB178_190 := n9_; have NB190_178 := n10_; have NB0_190 := n11_; have NB190_0 := n12_; clear n0_ n1_ n2_ n3_ n4_ n5_ n6_ n7_ n8_ n9_ n10_ n11_ n12_; clear hb hbox hg; have hnb14 := NB190_178.out; have hnc14 := NB178_190.out; have hnb15 := NB190_0.out; have hnc15 := NB0_190.out; obtain ⟨hcz16_0, hcz16_1, hcz16_2, hfz16_0, hfz16_1, hfz16_2⟩ := ZD3 BK190))
 go_loopg [7] k (fun kq v7 w' => ∃ (x7_1 : Int) (x1001_1 : Int) (x1002_1 : Int) (x191002_1 : List Int) (u191002 : Value), v7 = .int .i64 x7_1 ∧ Aside0 (spec_l03DrawOf.l0 kq a1 x7_1 s0_0 x1001_1 x1002_1 a1 t182 x191002_1 = some (r1, r2, r3, r4, r5)) ∧ Aside0 (kq ≤ k) ∧ Aside0 (Kd.R (Kd.int .i64) 2 w' w.heap.size (fun k_ => some k_ ≠ (u191002 : Value).ownBlock) (.slice Ao12 t182.length co12) t182) ∧ Aside0 (Kd.R (Kd.int .i64) 2 w' w.heap.size (fun k_ => some k_ ≠ ((.slice Ao12 t182.length co12) : Value).ownBlock) u191002 x191002_1) ∧ Aside0 (w'.heap[gb178]? = some (.cells #[.int .i64 0, (.slice none 0 0), (.slice none 0 0)] 26 (0, 0))) ∧ Aside0 (w'.heap[gb190]? = some (.cells #[.int .i64 a1, (.slice Ao12 t182.length co12), u191002] 26 (0, 0))) ∧ Aside0 (IsS176 w0 w' g s0_0 x1001_1 x1002_1) ∧ Aside0 (KeepBut w w' g none) ∧ Aside0 (Below w0.heap.size w0 w'))
 case atStart => exact ⟨(wrap64 (1 + t179)), (t185), (t186), (y187), (.slice Ao11 y187.length co11), (ZqS), H', ⟨Nat.le_refl _⟩, ⟨by refine ZQ ?_; exact Kd.R_mono (Kd.R_far (p := ⟨gb190, 2, none⟩) (Kd.R_far (p := ⟨gb190, 1, none⟩) (Kd.R_far (p := ⟨gb190, 0, none⟩) (Kd.R_types HO184.out BK190.out (by decide)) (fun _ hk => hk.2) (.int .i64 a1)) (fun _ hk => hk.2) (.slice Ao12 t182.length co12)) (fun _ hk => hk.2) (.slice Ao11 y187.length co11)) (fun _ hk => hk.1.2)⟩, ⟨by refine ZQ ?_; exact Kd.R_mono (Kd.R_far (p := ⟨gb190, 2, none⟩) (Kd.R_far (p := ⟨gb190, 1, none⟩) (Kd.R_far (p := ⟨gb190, 0, none⟩) (Kd.R_types HO189.out BK190.out (by decide)) (fun _ hk => hk.2) (.int .i64 a1)) (fun _ hk => hk.2) (.slice Ao12 t182.length co12)) (fun _ hk => hk.2) (.slice Ao11 y187.length co11)) (fun _ hk => hk.1.2)⟩, ⟨by refine ZS ?_; refine blk_far ?_ NB178_190.out _; refine ZS ?_; refine blk_far ?_ NB178_190.out _; refine ZS ?_; refine blk_far ?_ NB178_190.out _; refine ZS ?_; exact BK178.out⟩, ⟨by refine ZS ?_; refine blk_put (cs := #[.int .i64 a1, .slice Ao12 t182.length co12, .slice none 0 0]) ?_ 2 _ rfl; refine ZS ?_; refine blk_put (cs := #[.int .i64 a1, .slice none 0 0, .slice none 0 0]) ?_ 1 _ rfl; refine ZS ?_; refine blk_put (cs := #[.int .i64 0, .slice none 0 0, .slice none 0 0]) ?_ 0 _ rfl; refine ZS ?_; exact BK190.out⟩, ⟨by exact Zq22⟩, ⟨by exact Zq23⟩, ⟨by exact Zq24⟩⟩
 case round =>
  clear H'
  try clear c1
  try clear p2
  try clear p6
  try clear c12
  try clear c14
  try clear c15
  try clear hcz16_0
  try clear hcz16_1
  try clear hcz16_2
  try clear hfz16_0
  try clear hfz16_1
  try clear hfz16_2
  obtain ⟨x7_1, x1001_1, x1002_1, x191002_1, u191002, rfl, HA, HK1, HO_191001, HO_191002, BK178, BK190, HI0, HK, HB⟩ := hrel
  cases gk with
  | zero => exact absurd HA.out (by simp [spec_l03DrawOf.l0])
  | succ k1 =>
   have H := HA.out
   clear HA
   simp only [spec_l03DrawOf.l0] at H
   by_cases c17 : x7_1 > 0
   ·rw [if_pos c17] at H
    have c17b0 : decide (0 < x7_1) = true := decide_eq_true c17
    clear c17
    replace H := Option.bind_eq_some_iff.mp H
    obtain ⟨⟨t191, t192, t193⟩, A180, H⟩ := H
    try dsimp only at H
    have A18 := Aside0.mk A180
    clear A180
    by_cases c19 : x191002_1.length < 17592186044416
    ·rw [if_pos c19] at H
     have LMc19 := Aside0.mk c19
     clear c19
     obtain ⟨y194, hy194⟩ : ∃ y_ : List Int, y_ = (x191002_1 ++ [wrap64 (1 + t191)]) := ⟨_, rfl⟩
     replace H : (spec_l03DrawOf.l0 k1 a1 (wrap64 (x7_1 - 1)) s0_0 t192 t193 a1 t182 y194) = some (r1, r2, r3, r4, r5) := by have hq_ := hy194; exact ZqH
     have Ny194 := Aside0.mk hy194
     clear hy194
     have H' := Aside0.mk H
     clear H
     try go_wp2
     have n0_ := Aside0.mk (Kd.R_drew HO_191001.out)
     have n1_ := Aside0.mk (Kd.R_drew HO_191002.out)
     have n2_ := Aside0.mk (blk_drew BK178.out)
     have n3_ := Aside0.mk (blk_drew BK190.out)
     have n4_ := Aside0.mk (IsS176.drew HI0.out)
     have n5_ := Aside0.mk (keep_drew HK.out)
     have n6_ := Aside0.mk (below_drew1 HB.out)
     clear HO_191001
     clear HO_191002
     clear BK178
     clear BK190
     clear HI0
     clear HK
     clear HB
     have HO_191001 := n0_
     have HO_191002 := n1_
     have BK178 := n2_
     have BK190 := n3_
     have HI0 := n4_
     have HK := n5_
     have HB := n6_
     clear n0_ n1_ n2_ n3_ n4_ n5_ n6_
     refine start_ (n := 11) (S := fun w' => w'.cell? ⟨gb190, 0, none⟩ = some (.int .i64 a1) ∧ w'.cell? ⟨gb190, 1, none⟩ = some (.slice Ao12 t182.length co12) ∧ w'.cell? ⟨gb190, 2, none⟩ = some (u191002)) (ds := [10]) #[false, false, false, false, false, false, false, false, false, false, false] (by kernel_rfl) rfl rfl ⟨(blk_cell BK190.out 0).trans rfl, (blk_cell BK190.out 1).trans rfl, (blk_cell BK190.out 2).trans rfl⟩ (fun hHeld => ?_); refine with_tabW spec_l03DrawOf.tab5 spec_l03DrawOf.bits5 (fun HT_ HW_ => ?_)
     generalize wr.drew = w20 at HO_191001 HO_191002 BK178 BK190 HI0 HK HB hHeld ⊢
     refine Zpt 0 (some 24) (h := ?_)
     refine Zpt 2 (some 26) (h := ?_)
     refine Zpt 3 (some 27) (h := ?_)
     refine Zpt 4 (some 28) (h := ?_)
     refine ZtW3 1 (some 25) hHeld (h := ?_)
     refine one_ (i := 5) (N := some 29) #[true, true, true, true, true, true, false, false, false, false, false] rfl rfl (one_of HT_.out (by kernel_rfl)) (by decide) (fun K hK => ?_)
     refine goes_ Try.func122 (by kernel_rfl) rfl #[.pointer (some ⟨g, 0, none⟩), .int .i64 (wrap64 (a1 - 1))] (by rfl) rfl rfl ZA ?_
     with_reducible refine (spec_l01Next.calls g s0_0 x1001_1 x1002_1 (wrap64 (a1 - 1)) t191 t192 t193 w0 _ ?side1 ?side2 A18.out).mono ?_
     (case side1 => exact Zq22)
     (case side2 => exact Zq24)
     rintro e w21 ⟨rfl, hi, hb, hk⟩
     refine ⟨_, rfl, ?_⟩
     have n0_ := Aside0.mk (Kd.R_mono (Kd.R_keep (IsS176.apart (show IsS176 w0 _ g s0_0 x1001_1 x1002_1 from by exact Zq22) (ZR HO_191001) (by decide)) hk (fun _ h => h.2)) (fun _ h => h.1))
     have n1_ := Aside0.mk (Kd.R_mono (Kd.R_keep (IsS176.apart (show IsS176 w0 _ g s0_0 x1001_1 x1002_1 from by exact Zq22) (ZR HO_191002) (by decide)) hk (fun _ h => h.2)) (fun _ h => h.1))
     have n2_ := Aside0.mk (KeepBut.blk hk (g' := gb178) (o := .cells #[.int .i64 0, .slice none 0 0, .slice none 0 0] 26 (0, 0)) (ZK BK178) NB178_0.out (by simp))
     have n3_ := Aside0.mk (KeepBut.blk hk (g' := gb190) (o := .cells #[.int .i64 a1, .slice Ao12 t182.length co12, u191002] 26 (0, 0)) (ZK BK190) NB190_0.out (by simp))
     have n4_ := Aside0.mk (KeepBut.trans (by exact Zq23) hk (.inl rfl))
     have n5_ := Aside0.mk (hb)
     have n6_ := Aside0.mk (hi)
     clear HO_191001
     clear HO_191002
     clear BK178
     clear BK190
     clear HK
     clear HB
     clear HI0
     have HO_191001 := n0_
     have HO_191002 := n1_
     have BK178 := n2_
     have BK190 := n3_
     have HK := n4_
     have HB := n5_
     have HI0 := n6_
     clear n0_ n1_ n2_ n3_ n4_ n5_ n6_
     (try clear hb)
     (try clear hb2)
     (try clear hk)
     (try clear hi)
     refine hK.out _ _ ⟨(blk_cell BK190.out 0).trans rfl, (blk_cell BK190.out 1).trans rfl, (blk_cell BK190.out 2).trans rfl⟩ (fun hHeld => ?_)
     clear hK K
     refine norm_ (a' := ?_) ?_ ?_
     rotate_left
     ·show Act.put _ (some 29) _ = _
      simp only [Act.put, List.setIfInBounds_toArray, List.set_cons_zero, List.set_cons_succ, i64_w, i32_w]
      rfl
     refine Zpt 6 (some 30) (h := ?_)
     refine one_ (i := 7) (N := some 31) #[true, true, true, true, true, true, true, true, false, false, false] rfl rfl (one_of HT_.out (by kernel_rfl)) (by decide) (fun K hK => ?_)
     refine value_ (w1 := ?_) (v := ?_) (by rfl) rfl ?_ ?_
     rotate_left 2
     ·go_simp
      constructor
      ·rfl
      ·rfl
     refine hK.out _ _ ⟨(blk_cell (blk_alloc BK190.out _) 0).trans rfl, (blk_cell (blk_alloc BK190.out _) 1).trans rfl, (blk_cell (blk_alloc BK190.out _) 2).trans rfl⟩ (fun hHeld => ?_)
     clear hK K
     refine norm_ (a' := ?_) ?_ ?_
     rotate_left
     ·show Act.put _ (some 31) _ = _
      simp only [Act.put, List.setIfInBounds_toArray, List.set_cons_zero, List.set_cons_succ, i64_w, i32_w]
      rfl
     refine one_ (i := 8) (N := some 32) #[true, true, true, true, true, true, true, true, true, false, false] rfl rfl (one_of HT_.out (by kernel_rfl)) (by decide) (fun K hK => ?_)
     refine Kd.R_append_step (Kd.int .i64) w.heap.size (by rfl) (.tmp 25) (.tmp 31) 24 2 (.int .i64 0) 8 rfl Try.underlying24 info2 rfl (by decide) (by omega) u191002 x191002_1 (wrap64 (1 + t191)) [.int .i64 (wrap64 (1 + t191))] (fun k_ => some k_ ≠ (.slice Ao12 t182.length co12 : Value).ownBlock) (fun _ => False) rfl rfl ?aP (fun _ hk => hk.elim) ?aF ?aO (Below.refl _ _) ?aS ?aL ?_
     (case aP => exact rfl)
     (case aF => exact (fun k_ hk => Kd.fresh' (Kd.R_lt (ZR HO_191001)) k_ hk))
     (case aO => exact (ZR HO_191002))
     (case aS => exact (keep_size (w := w) (g := g) (row := none) (by exact Zq23)))
     (case aL => have := LMc19.out; omega)
     intro v195 w22 ho hb hg hat
     rw [← Ny194.out] at ho
     have n0_ := Aside0.mk (Kd.R_after (ok := (fun _ => True)) (by refine ZQ ?_; exact Kd.R_mono HO_191001.out (fun _ hk => (And.intro (trivial) (hk)))) hg hat)
     have n1_ := Aside0.mk (blk_grown (ZK BK178) hg (Kd.R_ne HO_191002.out BK178.out (by decide)))
     have n2_ := Aside0.mk (blk_grown (ZK BK190) hg (Kd.R_ne HO_191002.out BK190.out (by decide)))
     have n3_ := Aside0.mk (IsS176.grown (by exact Zq22) hg (IsS176.own_ne HI0.out HO_191002.out (by decide)))
     have n4_ := Aside0.mk (below_weaken (by exact Zq24) HL.out hb)
     have n5_ := Aside0.mk (KeepBut.trans (by exact Zq23) (KeepBut.of_grown hg g) (Kd.R_base2 HO_191002.out))
     have n6_ := Aside0.mk (ho)
     clear HO_191001
     clear BK178
     clear BK190
     clear HI0
     clear HB
     clear HK
     clear HO_191002
     have HO_191001 := n0_
     have BK178 := n1_
     have BK190 := n2_
     have HI0 := n3_
     have HB := n4_
     have HK := n5_
     have HO196 := n6_
     clear n0_ n1_ n2_ n3_ n4_ n5_ n6_
     clear ho hb hg hat
     obtain ⟨Ao23, co23, eo23⟩ := Kd.R_slice HO196.out
     (first | subst eo23 | (injection eo23 with f1_ f2_ f3_; have f4_ := f1_.symm; have f5_ := f3_.symm; clear f1_ f2_ f3_; subst f4_; subst f5_))
     refine hK.out _ _ ⟨(blk_cell BK190.out 0).trans rfl, (blk_cell BK190.out 1).trans rfl, (blk_cell BK190.out 2).trans rfl⟩ (fun hHeld => ?_)
     clear hK K
     refine norm_ (a' := ?_) ?_ ?_
     rotate_left
     ·show Act.put _ (some 32) _ = _
      simp only [Act.put, List.setIfInBounds_toArray, List.set_cons_zero, List.set_cons_succ, i64_w, i32_w]
      rfl
     refine Zpt 9 (some 33) (h := ?_)
     refine last_ (i := 10) (N := none) #[true, true, true, true, true, true, true, true, true, true, true] rfl rfl (one_of HT_.out (by kernel_rfl)) (by decide) (fun K hK => ?_)
     have hs24 : w22.cell? ⟨gb190, 2, none⟩ = some (u191002) := (blk_cell BK190.out 2).trans rfl
     have hfs24 := blk_frozen BK190.out 2
     have hns24_0 := NB178_190.out
     have hms24_0 := NB190_178.out
     refine skip_ (w1 := ?_) (by rfl) rfl ?_ ?_
     rotate_left
     ·go_simp
      rfl
     refine hK.out _ _ ?_
     clear hK K
     refine done_ (done_of HT_.out (by kernel_rfl)) ?_
     try go_wp2
     go_roundg k1
     case measure => have := HK1.out; omega
     case rel => exact ⟨(wrap64 (x7_1 - 1)), (t192), (t193), (y194), (.slice Ao23 y194.length co23), (ZqS), H', ⟨by have := HK1.out; omega⟩, ⟨by refine ZQ ?_; exact Kd.R_mono (Kd.R_far (p := ⟨gb190, 2, none⟩) (Kd.R_types HO_191001.out BK190.out (by decide)) (fun _ hk => hk.2) (.slice Ao23 y194.length co23)) (fun _ hk => hk.1.2)⟩, ⟨by refine ZQ ?_; exact Kd.R_mono (Kd.R_far (p := ⟨gb190, 2, none⟩) (Kd.R_types HO196.out BK190.out (by decide)) (fun _ hk => hk.2) (.slice Ao23 y194.length co23)) (fun _ hk => hk.1)⟩, ⟨by refine ZS ?_; refine blk_far ?_ NB178_190.out _; refine ZS ?_; exact BK178.out⟩, ⟨by refine ZS ?_; refine blk_put (cs := #[.int .i64 a1, .slice Ao12 t182.length co12, u191002]) ?_ 2 _ rfl; refine ZS ?_; exact BK190.out⟩, ⟨by exact Zq22⟩, ⟨by exact Zq23⟩, ⟨by exact Zq24⟩⟩
    ·rw [if_neg c19] at H
     exact absurd H (by simp)
   ·rw [if_neg c17] at H
    have c17b0 : decide (0 < x7_1) = false := decide_eq_false c17
    clear c17
    replace H := Option.bind_eq_some_iff.mp H
    obtain ⟨⟨t197, t198, t199⟩, A250, H⟩ := H
    try dsimp only at H
    have A25 := Aside0.mk A250
    clear A250
    by_cases c26 : t197 = 0
    ·rw [if_pos c26] at H
     have c26b0 : (t197 == 0) = true := beq_iff_eq.mpr c26
     have c26b1 : (t197 != 0) = false := bne_eq_false_iff_eq.mpr c26
     clear c26
     by_cases c27 : 0 ≤ (t182.length : Int)
     ·rw [if_pos c27] at H
      have c27b0 := eq_true c27
      have c27b1 : decide (0 ≤ (t182.length : Int)) = true := decide_eq_true c27
      clear c27
      by_cases c28 : ((t182.length : Int) : Int).toNat ≤ 35184372088832
      ·rw [if_pos c28] at H
       have c28b0 := eq_true c28
       have c28b1 : decide (((t182.length : Int) : Int).toNat ≤ 35184372088832) = true := decide_eq_true c28
       clear c28
       obtain ⟨y200, hy200⟩ : ∃ y_ : List Int, y_ = (List.replicate ((t182.length : Int) : Int).toNat 0) := ⟨_, rfl⟩
       replace H : (some (a1, y200, x191002_1, t198, t199)) = some (r1, r2, r3, r4, r5) := by have hq_ := hy200; exact ZqH
       have Ny200 := Aside0.mk hy200
       clear hy200
       simp only [Option.some.injEq, Prod.mk.injEq] at H
       obtain ⟨rfl, rfl, rfl, rfl, rfl⟩ := H
       go_wp2_with (first | ((with_reducible refine gate_callee (f := 122) rfl ?_); refine goesL_ (some 35) rfl rfl Try.func122 (by kernel_rfl) rfl #[.pointer (some ⟨g, 0, none⟩), .int .i64 6] rfl ZA ?_; (with_reducible refine (spec_l01Next.calls g s0_0 x1001_1 x1002_1 6 t197 t198 t199 w0 _ ?side1 ?side2 A25.out).mono ?_); (case side1 => exact Zq22); (case side2 => exact Zq24); rintro e w29 ⟨rfl, hi, hb, hk⟩; refine ⟨_, rfl, ?_⟩; have n0_ := Aside0.mk (Kd.R_mono (Kd.R_keep (IsS176.apart (show IsS176 w0 _ g s0_0 x1001_1 x1002_1 from by exact Zq22) (ZR HO_191001) (by decide)) hk (fun _ h => h.2)) (fun _ h => h.1)); have n1_ := Aside0.mk (Kd.R_mono (Kd.R_keep (IsS176.apart (show IsS176 w0 _ g s0_0 x1001_1 x1002_1 from by exact Zq22) (ZR HO_191002) (by decide)) hk (fun _ h => h.2)) (fun _ h => h.1)); have n2_ := Aside0.mk (KeepBut.blk hk (g' := gb178) (o := .cells #[.int .i64 0, .slice none 0 0, .slice none 0 0] 26 (0, 0)) (ZK BK178) NB178_0.out (by simp)); have n3_ := Aside0.mk (KeepBut.blk hk (g' := gb190) (o := .cells #[.int .i64 a1, .slice Ao12 t182.length co12, u191002] 26 (0, 0)) (ZK BK190) NB190_0.out (by simp)); have n4_ := Aside0.mk (KeepBut.trans (by exact Zq23) hk (.inl rfl)); have n5_ := Aside0.mk (hb); have n6_ := Aside0.mk (hi); clear HO_191001 HO_191002 BK178 BK190 HK HB HI0; have HO_191001 := n0_; have HO_191002 := n1_; have BK178 := n2_; have BK190 := n3_; have HK := n4_; have HB := n5_; have HI0 := n6_; clear n0_ n1_ n2_ n3_ n4_ n5_ n6_; (try clear hb); (try clear hk); (try clear hi); have hnb30 := NB190_178.out; have hnc30 := NB178_190.out; have hnb31 := NB190_0.out; have hnc31 := NB0_190.out; obtain ⟨hcz32_0, hcz32_1, hcz32_2, hfz32_0, hfz32_1, hfz32_2⟩ := ZD3 BK190) | ((with_reducible refine gate_dst (N := 40) rfl ?_); refine Kd.R_make (Kd.int .i64) _ 2 rfl (N := 40) rfl 24 _ _ rfl (t182.length : Int) rfl rfl Try.underlying24 (.int .i64 0) 8 info2 rfl (by decide) (by omega) 0 (ok := fun _ => True) (okp := fun _ => True) rfl (fun _ hk => hk) trivial (of_decide_eq_true (by first | (with_reducible assumption) | assumption)) (Nat.le_trans (Nat.mul_le_mul_right _ (of_decide_eq_true (by first | (with_reducible assumption) | assumption) : (t182.length : Int).toNat ≤ 35184372088832)) (by omega)) (Below.refl _ _) (Nat.le_refl _) ?_; intro v201 w33 ho34 hb hg_ hnew_; clear hg_ hnew_; (first | rw [← Ny200.out] at ho34 | (simp only [Int.reduceToNat] at ho34; rw [← Ny200.out] at ho34)); have n0_ := Aside0.mk (Kd.R_elder' (ZR HO_191001) (Kd.R_base ho34) hb); have n1_ := Aside0.mk (Kd.R_elder' (ZR HO_191002) (Kd.R_base ho34) hb); have n2_ := Aside0.mk (Kd.R_lower (Kd.R_new' (Kd.R_new' ho34 (Kd.R_lt (ZR HO_191001))) (Kd.R_lt (ZR HO_191002))) (keep_size (w := w) (g := g) (row := none) (by exact Zq23))); have n3_ := ZL BK178 hb; have n4_ := ZL BK190 hb; have n5_ := Aside0.mk (IsS176.below (by exact Zq22) hb); have n6_ := Aside0.mk (KeepBut.trans (by exact Zq23) (KeepBut.of_below hb g none) (.inl rfl)); have n7_ := Aside0.mk (below_step (by exact Zq24) hb); clear HO_191001 HO_191002 BK178 BK190 HI0 HK HB; have HO_191001 := n0_; have HO_191002 := n1_; have HO202 := n2_; have BK178 := n3_; have BK190 := n4_; have HI0 := n5_; have HK := n6_; have HB := n7_; clear n0_ n1_ n2_ n3_ n4_ n5_ n6_ n7_; clear hb ho34; obtain ⟨Ao35, co35, eo35⟩ := Kd.R_slice HO202.out; subst eo35; obtain ⟨hcz36_0, hcz36_1, hcz36_2, hfz36_0, hfz36_1, hfz36_2⟩ := ZD3 BK190; have hnb37 := NB178_0.out; have hnc37 := NB0_178.out; obtain ⟨hcz38_0, hcz38_1, hcz38_2, hfz38_0, hfz38_1, hfz38_2⟩ := ZD3 BK178; obtain ⟨Ao39, co39, eo39⟩ := Kd.R_slice HO_191002.out; subst eo39))
       refine bodyPost_ret (results_cell_row rfl _ _ gb178 26 #[.int .i64 a1, .slice Ao35 y200.length co35, .slice Ao39 x191002_1.length co39] (0, 0) _ rfl (by refine ZS ?_; refine blk_put (cs := #[.int .i64 a1, .slice Ao35 y200.length co35, .slice none 0 0]) ?_ 2 _ rfl; refine ZS ?_; refine blk_put (cs := #[.int .i64 a1, .slice none 0 0, .slice none 0 0]) ?_ 1 _ rfl; refine ZS ?_; refine blk_put (cs := #[.int .i64 0, .slice none 0 0, .slice none 0 0]) ?_ 0 _ rfl; refine ZS ?_; refine blk_far ?_ NB178_190.out _; refine ZS ?_; exact BK178.out) Try.underlying26 rfl (by kernel_rfl)) rfl ?_
       exact ⟨_, _, ZqR, by refine ZQ ?_; exact Kd.R_mono (Kd.R_far (p := ⟨gb178, 2, none⟩) (Kd.R_far (p := ⟨gb178, 1, none⟩) (Kd.R_far (p := ⟨gb178, 0, none⟩) (Kd.R_far (p := ⟨gb190, 1, none⟩) (Kd.R_types (Kd.R_types HO202.out BK190.out (by decide)) BK178.out (by decide)) (fun _ hk => hk.1.2) (.slice Ao35 y200.length co35)) (fun _ hk => hk.2) (.int .i64 a1)) (fun _ hk => hk.2) (.slice Ao35 y200.length co35)) (fun _ hk => hk.2) (.slice Ao39 x191002_1.length co39)) (fun _ hk => hk.1.1.2), by refine ZQ ?_; exact Kd.R_mono (Kd.R_far (p := ⟨gb178, 2, none⟩) (Kd.R_far (p := ⟨gb178, 1, none⟩) (Kd.R_far (p := ⟨gb178, 0, none⟩) (Kd.R_far (p := ⟨gb190, 1, none⟩) (Kd.R_types (Kd.R_types HO_191002.out BK190.out (by decide)) BK178.out (by decide)) (fun _ hk => hk.1.2) (.slice Ao35 y200.length co35)) (fun _ hk => hk.2) (.int .i64 a1)) (fun _ hk => hk.2) (.slice Ao35 y200.length co35)) (fun _ hk => hk.2) (.slice Ao39 x191002_1.length co39)) (fun _ hk => hk.1.1.2), by exact Zq22, by exact Zq24, by exact Zq23⟩
      ·rw [if_neg c28] at H
       exact absurd H (by simp)
     ·rw [if_neg c27] at H
      exact absurd H (by simp)
    ·rw [if_neg c26] at H
     have c26b0 : (t197 == 0) = false := beq_eq_false_iff_ne.mpr c26
     have c26b1 : (t197 != 0) = true := bne_iff_ne.mpr c26
     simp only [Option.some.injEq, Prod.mk.injEq] at H
     obtain ⟨rfl, rfl, rfl, rfl, rfl⟩ := H
     go_wp2_with (first | ((with_reducible refine gate_callee (f := 122) rfl ?_); refine goesL_ (some 35) rfl rfl Try.func122 (by kernel_rfl) rfl #[.pointer (some ⟨g, 0, none⟩), .int .i64 6] rfl ZA ?_; (with_reducible refine (spec_l01Next.calls g s0_0 x1001_1 x1002_1 6 t197 t198 t199 w0 _ ?side1 ?side2 A25.out).mono ?_); (case side1 => exact Zq22); (case side2 => exact Zq24); rintro e w40 ⟨rfl, hi, hb, hk⟩; refine ⟨_, rfl, ?_⟩; have n0_ := Aside0.mk (Kd.R_mono (Kd.R_keep (IsS176.apart (show IsS176 w0 _ g s0_0 x1001_1 x1002_1 from by exact Zq22) (ZR HO_191001) (by decide)) hk (fun _ h => h.2)) (fun _ h => h.1)); have n1_ := Aside0.mk (Kd.R_mono (Kd.R_keep (IsS176.apart (show IsS176 w0 _ g s0_0 x1001_1 x1002_1 from by exact Zq22) (ZR HO_191002) (by decide)) hk (fun _ h => h.2)) (fun _ h => h.1)); have n2_ := Aside0.mk (KeepBut.blk hk (g' := gb178) (o := .cells #[.int .i64 0, .slice none 0 0, .slice none 0 0] 26 (0, 0)) (ZK BK178) NB178_0.out (by simp)); have n3_ := Aside0.mk (KeepBut.blk hk (g' := gb190) (o := .cells #[.int .i64 a1, .slice Ao12 t182.length co12, u191002] 26 (0, 0)) (ZK BK190) NB190_0.out (by simp)); have n4_ := Aside0.mk (KeepBut.trans (by exact Zq23) hk (.inl rfl)); have n5_ := Aside0.mk (hb); have n6_ := Aside0.mk (hi); clear HO_191001 HO_191002 BK178 BK190 HK HB HI0; have HO_191001 := n0_; have HO_191002 := n1_; have BK178 := n2_; have BK190 := n3_; have HK := n4_; have HB := n5_; have HI0 := n6_; clear n0_ n1_ n2_ n3_ n4_ n5_ n6_; (try clear hb); (try clear hk); (try clear hi); have hnb41 := NB190_178.out; have hnc41 := NB178_190.out; have hnb42 := NB190_0.out; have hnc42 := NB0_190.out; obtain ⟨hcz43_0, hcz43_1, hcz43_2, hfz43_0, hfz43_1, hfz43_2⟩ := ZD3 BK190; have hnb44 := NB178_0.out; have hnc44 := NB0_178.out; obtain ⟨hcz45_0, hcz45_1, hcz45_2, hfz45_0, hfz45_1, hfz45_2⟩ := ZD3 BK178; obtain ⟨Ao46, co46, eo46⟩ := Kd.R_slice HO_191002.out; subst eo46))
     refine bodyPost_ret (results_cell_row rfl _ _ gb178 26 #[.int .i64 a1, .slice Ao12 t182.length co12, .slice Ao46 x191002_1.length co46] (0, 0) _ rfl (by refine ZS ?_; refine blk_put (cs := #[.int .i64 a1, .slice Ao12 t182.length co12, .slice none 0 0]) ?_ 2 _ rfl; refine ZS ?_; refine blk_put (cs := #[.int .i64 a1, .slice none 0 0, .slice none 0 0]) ?_ 1 _ rfl; refine ZS ?_; refine blk_put (cs := #[.int .i64 0, .slice none 0 0, .slice none 0 0]) ?_ 0 _ rfl; refine ZS ?_; exact BK178.out) Try.underlying26 rfl (by kernel_rfl)) rfl ?_
     exact ⟨_, _, ZqR, by refine ZQ ?_; exact Kd.R_mono (Kd.R_far (p := ⟨gb178, 2, none⟩) (Kd.R_far (p := ⟨gb178, 1, none⟩) (Kd.R_far (p := ⟨gb178, 0, none⟩) (Kd.R_types HO_191001.out BK178.out (by decide)) (fun _ hk => hk.2) (.int .i64 a1)) (fun _ hk => hk.2) (.slice Ao12 t182.length co12)) (fun _ hk => hk.2) (.slice Ao46 x191002_1.length co46)) (fun _ hk => hk.1), by refine ZQ ?_; exact Kd.R_mono (Kd.R_far (p := ⟨gb178, 2, none⟩) (Kd.R_far (p := ⟨gb178, 1, none⟩) (Kd.R_far (p := ⟨gb178, 0, none⟩) (Kd.R_types HO_191002.out BK178.out (by decide)) (fun _ hk => hk.2) (.int .i64 a1)) (fun _ hk => hk.2) (.slice Ao12 t182.length co12)) (fun _ hk => hk.2) (.slice Ao46 x191002_1.length co46)) (fun _ hk => hk.1), by exact Zq22, by exact Zq24, by exact Zq23⟩

/-! ### spec_l01DrawPrime: function 185 -/
def spec_l01DrawPrime.f (s0_0 : List Int) (s0_1 : Int) (s0_2 : Int) : Option (Int × Int × Int) := (spec_l01Pick.f s0_0 s0_1 s0_2 (([2, 3, 5, 7, 7, 11, 13, 17, 31, 101, 997, 10007] : List Int))).bind fun bt206 => (some (bt206.1, bt206.2.1, bt206.2.2))
set_option maxHeartbeats 8000000 in
set_option maxRecDepth 100000 in
theorem spec_l01DrawPrime.calls (g : Nat) (s0_0 : List Int) (s0_1 : Int) (s0_2 : Int) (r1 : Int) (r2 : Int) (r3 : Int) (w0 w : World) (hI : IsS176 w0 w g s0_0 s0_1 s0_2) (hB : Below w0.heap.size w0 w) (h : spec_l01DrawPrime.f s0_0 s0_1 s0_2 = some (r1, r2, r3)) :
  Calls Try.prog 185 #[.pointer (some ⟨g, 0, none⟩)] w fun e w' => e = .returned (.int .i64 r1) ∧ IsS176 w0 w' g s0_0 r2 r3 ∧ Below w0.heap.size w0 w' ∧ KeepBut w w' g none := by
 have HI0 := Aside0.mk hI
 have HK := Aside0.mk (KeepBut.refl w g none)
 have HL := Aside0.mk hB.size
 clear hI
 have HW0 := Aside0.mk hB.size
 have HB := Aside0.mk hB
 clear hB
 have H : ((spec_l01Pick.f s0_0 s0_1 s0_2 (([2, 3, 5, 7, 7, 11, 13, 17, 31, 101, 997, 10007] : List Int))).bind fun bt206 => (some (bt206.1, bt206.2.1, bt206.2.2))) = some (r1, r2, r3) := h
 clear h
 obtain ⟨y203, hy203⟩ : ∃ y_ : List Int, y_ = (([2, 3, 5, 7, 7, 11, 13, 17, 31, 101, 997, 10007] : List Int)) := ⟨_, rfl⟩
 replace H : ((spec_l01Pick.f s0_0 s0_1 s0_2 y203).bind fun bt206 => (some (bt206.1, bt206.2.1, bt206.2.2))) = some (r1, r2, r3) := by have hq_ := hy203; exact ZqH
 have Ny203 := Aside0.mk hy203
 clear hy203
 replace H := Option.bind_eq_some_iff.mp H
 obtain ⟨⟨t206, t207, t208⟩, A20, H⟩ := H
 try dsimp only at H
 have A2 := Aside0.mk A20
 clear A20
 simp only [Option.some.injEq, Prod.mk.injEq] at H
 obtain ⟨rfl, rfl, rfl⟩ := H
 go_enter Try.func185, Try.ntmps185
 go_wp2_with (first | ((with_reducible refine gate_dst (N := 4) rfl ?_); refine Kd.R_lit (Kd.int .i64) _ 2 ?hg (N := 4) ?hd (xs := ([2, 3, 5, 7, 7, 11, 13, 17, 31, 101, 997, 10007] : List Int)) (inner := [.int .i64 2, .int .i64 3, .int .i64 5, .int .i64 7, .int .i64 7, .int .i64 11, .int .i64 13, .int .i64 17, .int .i64 31, .int .i64 101, .int .i64 997, .int .i64 10007]) (ok := fun _ => True) (okp := fun _ => True) ?hr ?hp (fun _ hk => hk) trivial (Below.refl _ _) (Nat.le_refl _) (by simp) ?_; (case hd => rfl); (case hg => rfl); (case hr => exact ZqT); (case hp => exact (Reps.one (show Kd.M (Kd.int .i64) _ _ _ 2 [.int .i64 2] from rfl) (Reps.one (show Kd.M (Kd.int .i64) _ _ _ 3 [.int .i64 3] from rfl) (Reps.one (show Kd.M (Kd.int .i64) _ _ _ 5 [.int .i64 5] from rfl) (Reps.one (show Kd.M (Kd.int .i64) _ _ _ 7 [.int .i64 7] from rfl) (Reps.one (show Kd.M (Kd.int .i64) _ _ _ 7 [.int .i64 7] from rfl) (Reps.one (show Kd.M (Kd.int .i64) _ _ _ 11 [.int .i64 11] from rfl) (Reps.one (show Kd.M (Kd.int .i64) _ _ _ 13 [.int .i64 13] from rfl) (Reps.one (show Kd.M (Kd.int .i64) _ _ _ 17 [.int .i64 17] from rfl) (Reps.one (show Kd.M (Kd.int .i64) _ _ _ 31 [.int .i64 31] from rfl) (Reps.one (show Kd.M (Kd.int .i64) _ _ _ 101 [.int .i64 101] from rfl) (Reps.one (show Kd.M (Kd.int .i64) _ _ _ 997 [.int .i64 997] from rfl) (Reps.one (show Kd.M (Kd.int .i64) _ _ _ 10007 [.int .i64 10007] from rfl) (Reps.none _ _)))))))))))))); intro v204 w3 ho4 hb hg_ hnew_; clear hg_ hnew_; (first | rw [← Ny203.out] at ho4 | (simp only [Int.reduceToNat] at ho4; rw [← Ny203.out] at ho4)); have n0_ := Aside0.mk (Kd.R_lower ho4 (keep_size (w := w) (g := g) (row := none) (by exact Zq5))); have n1_ := Aside0.mk (IsS176.below (by exact Zq3) hb); have n2_ := Aside0.mk (KeepBut.trans (by exact Zq5) (KeepBut.of_below hb g none) (.inl rfl)); have n3_ := Aside0.mk (below_step (by exact Zq4) hb); clear HI0 HK HB; have HO205 := n0_; have HI0 := n1_; have HK := n2_; have HB := n3_; clear n0_ n1_ n2_ n3_; clear hb ho4; obtain ⟨Ao5, co5, eo5⟩ := Kd.R_slice HO205.out; subst eo5) | ((with_reducible refine gate_callee (f := 136) rfl ?_); refine goesL_ (some 5) rfl rfl Try.func136 (by kernel_rfl) rfl #[.pointer (some ⟨g, 0, none⟩), .slice Ao5 y203.length co5] rfl ZA ?_; (with_reducible refine (spec_l01Pick.calls g s0_0 s0_1 s0_2 _ _ y203 t206 t207 t208 w0 _ ?side1 ?side2 ?side3 ?side4 ?side5 A2.out).mono ?_); (case side1 => exact Zq3); (case side2 => exact Zq4); (case side3 => exact ZqC ((Kd.R_reads' HO205.out).2.2)); (case side4 => exact (Kd.R_reads' HO205.out).2.1); (case side5 => exact far_slice (IsS176.own_ne HI0.out HO205.out (by decide))); rintro e w6 ⟨rfl, hi, hb, hk⟩; refine ⟨_, rfl, ?_⟩; have n0_ := Aside0.mk (Kd.R_mono (Kd.R_keep (IsS176.apart (show IsS176 w0 _ g s0_0 s0_1 s0_2 from by exact Zq3) (ZR HO205) (by decide)) hk (fun _ h => h.2)) (fun _ h => h.1)); have n1_ := Aside0.mk (KeepBut.trans (by exact Zq5) hk (.inl rfl)); have n2_ := Aside0.mk (hb); have n3_ := Aside0.mk (hi); clear HO205 HK HB HI0; have HO205 := n0_; have HK := n1_; have HB := n2_; have HI0 := n3_; clear n0_ n1_ n2_ n3_; (try clear hb); (try clear hk); (try clear hi)))
 go_ret
 exact ⟨ZqR, by exact Zq3, by exact Zq4, by exact Zq5⟩

/-! ### spec_l03Draw: function 227 -/
def spec_l03Draw.f (k : Nat) (s0_0 : List Int) (s0_1 : Int) (s0_2 : Int) : Option (Int × List Int × List Int × Int × Int) := (spec_l01DrawPrime.f s0_0 s0_1 s0_2).bind fun bt210 => ((spec_l01Pick.f s0_0 bt210.2.1 bt210.2.2 (([2, 3, 4, 6, 12] : List Int))).bind fun bt216 => ((spec_l03DrawOf.f k s0_0 bt216.2.1 bt216.2.2 bt210.1 bt216.1).bind fun bt219 => (some (bt219.1, bt219.2.1, bt219.2.2.1, bt219.2.2.2.1, bt219.2.2.2.2))))
theorem spec_l03Draw.mono : ∀ a0 a1 a2 k, LeO (spec_l03Draw.f k a0 a1 a2) (spec_l03Draw.f (k + 1) a0 a1 a2) := by
 intro a0 a1 a2 k
 unfold spec_l03Draw.f
 repeat' first
   | (with_reducible exact spec_l03DrawOf.mono _ _ _ _ _ _)
   | (with_reducible exact LeO.refl _)
   | (with_reducible exact LeO.none _)
   | (with_reducible refine LeO.ite ?_ ?_)
   | (with_reducible refine LeO.bind ?_ (fun _ => ?_))
   | exact spec_l03DrawOf.mono _ _ _ _ _ _
   | exact LeO.none _
   | refine LeO.ite ?_ ?_
   | refine LeO.bind ?_ (fun _ => ?_)
set_option maxHeartbeats 8000000 in
set_option maxRecDepth 100000 in
theorem spec_l03Draw.calls (k : Nat) (g : Nat) (s0_0 : List Int) (s0_1 : Int) (s0_2 : Int) (r1 : Int) (r2 : List Int) (r3 : List Int) (r4 : Int) (r5 : Int) (w0 w : World) (hI : IsS176 w0 w g s0_0 s0_1 s0_2) (hB : Below w0.heap.size w0 w) (h : spec_l03Draw.f k s0_0 s0_1 s0_2 = some (r1, r2, r3, r4, r5)) :
  Calls Try.prog 227 #[.pointer (some ⟨g, 0, none⟩)] w fun e w' => ∃ v1_ v2_ : Value, e = .returned (.agg #[.int .i64 r1, v1_, v2_]) ∧ Kd.R (Kd.int .i64) 2 w' w.heap.size (fun k_ => some k_ ≠ (v2_ : Value).ownBlock) v1_ r2 ∧ Kd.R (Kd.int .i64) 2 w' w.heap.size (fun k_ => some k_ ≠ (v1_ : Value).ownBlock) v2_ r3 ∧ IsS176 w0 w' g s0_0 r4 r5 ∧ Below w0.heap.size w0 w' ∧ KeepBut w w' g none := by
 have hu26 := Try.underlying26
 have HI0 := Aside0.mk hI
 have HK := Aside0.mk (KeepBut.refl w g none)
 have HL := Aside0.mk hB.size
 clear hI
 have HW0 := Aside0.mk hB.size
 have HB := Aside0.mk hB
 clear hB
 have H : ((spec_l01DrawPrime.f s0_0 s0_1 s0_2).bind fun bt210 => ((spec_l01Pick.f s0_0 bt210.2.1 bt210.2.2 (([2, 3, 4, 6, 12] : List Int))).bind fun bt216 => ((spec_l03DrawOf.f k s0_0 bt216.2.1 bt216.2.2 bt210.1 bt216.1).bind fun bt219 => (some (bt219.1, bt219.2.1, bt219.2.2.1, bt219.2.2.2.1, bt219.2.2.2.2))))) = some (r1, r2, r3, r4, r5) := h
 clear h
 replace H := Option.bind_eq_some_iff.mp H
 obtain ⟨⟨t210, t211, t212⟩, A20, H⟩ := H
 try dsimp only at H
 have A2 := Aside0.mk A20
 clear A20
 obtain ⟨y213, hy213⟩ : ∃ y_ : List Int, y_ = (([2, 3, 4, 6, 12] : List Int)) := ⟨_, rfl⟩
 replace H : ((spec_l01Pick.f s0_0 t211 t212 y213).bind fun bt216 => ((spec_l03DrawOf.f k s0_0 bt216.2.1 bt216.2.2 t210 bt216.1).bind fun bt219 => (some (bt219.1, bt219.2.1, bt219.2.2.1, bt219.2.2.2.1, bt219.2.2.2.2)))) = some (r1, r2, r3, r4, r5) := by have hq_ := hy213; exact ZqH
 have Ny213 := Aside0.mk hy213
 clear hy213
 replace H := Option.bind_eq_some_iff.mp H
 obtain ⟨⟨t216, t217, t218⟩, A30, H⟩ := H
 try dsimp only at H
 have A3 := Aside0.mk A30
 clear A30
 replace H := Option.bind_eq_some_iff.mp H
 obtain ⟨⟨t219, t220, t223, t226, t227⟩, A40, H⟩ := H
 try dsimp only at H
 have A4 := Aside0.mk A40
 clear A40
 simp only [Option.some.injEq, Prod.mk.injEq] at H
 obtain ⟨rfl, rfl, rfl, rfl, rfl⟩ := H
 go_enter Try.func227, Try.ntmps227
 go_wp2_with (first | ((with_reducible refine gate_dst (N := 2) rfl ?_); refine box_event ?hg (N := 2) ?hd (cs := #[.int .i64 0, .slice none 0 0, .slice none 0 0]) (t := 26) ?hr ?_; (case hd => rfl); (case hg => rfl); (case hr => exact ZqT); intro gb209 hg w5 hbox hb; have n0_ := Aside0.mk (IsS176.below (by exact Zq3) hb); have n1_ := Aside0.mk (KeepBut.trans (by exact Zq5) (KeepBut.of_below hb g none) (.inl rfl)); have n2_ := Aside0.mk (below_step (by exact Zq4) hb); have n3_ := Aside0.mk (hbox); have n4_ := Aside0.mk ((by rw [hg]; exact (keep_size (w := w) (g := g) (row := none) (by exact Zq5)) : w.heap.size ≤ gb209)); have n5_ := Aside0.mk ((Nat.le_trans HW0.out (by rw [hg]; exact (keep_size (w := w) (g := g) (row := none) (by exact Zq5)) : w.heap.size ≤ gb209) : w0.heap.size ≤ gb209)); have n6_ := Aside0.mk ((by rw [hg]; exact Nat.ne_of_lt (IsS176.lt (show IsS176 w0 _ g s0_0 s0_1 s0_2 from by exact Zq3)) : g ≠ gb209)); have n7_ := Aside0.mk ((by rw [hg]; exact Nat.ne_of_gt (IsS176.lt (show IsS176 w0 _ g s0_0 s0_1 s0_2 from by exact Zq3)) : gb209 ≠ g)); clear HI0 HK HB; have HI0 := n0_; have HK := n1_; have HB := n2_; have BK209 := n3_; have GW209 := n4_; have GE209 := n5_; have NB0_209 := n6_; have NB209_0 := n7_; clear n0_ n1_ n2_ n3_ n4_ n5_ n6_ n7_; clear hb hbox hg) | ((with_reducible refine gate_callee (f := 185) rfl ?_); refine goesL_ (some 5) rfl rfl Try.func185 (by kernel_rfl) rfl #[.pointer (some ⟨g, 0, none⟩)] rfl ZA ?_; (with_reducible refine (spec_l01DrawPrime.calls g s0_0 s0_1 s0_2 t210 t211 t212 w0 _ ?side1 ?side2 A2.out).mono ?_); (case side1 => exact Zq25); (case side2 => exact Zq26); rintro e w6 ⟨rfl, hi, hb, hk⟩; refine ⟨_, rfl, ?_⟩; have n0_ := Aside0.mk (KeepBut.blk hk (g' := gb209) (o := .cells #[.int .i64 0, .slice none 0 0, .slice none 0 0] 26 (0, 0)) (ZK BK209) NB209_0.out (by simp)); have n1_ := Aside0.mk (KeepBut.trans (by exact Zq27) hk (.inl rfl)); have n2_ := Aside0.mk (hb); have n3_ := Aside0.mk (hi); clear BK209 HK HB HI0; have BK209 := n0_; have HK := n1_; have HB := n2_; have HI0 := n3_; clear n0_ n1_ n2_ n3_; (try clear hb); (try clear hk); (try clear hi)) | ((with_reducible refine gate_dst (N := 7) rfl ?_); refine Kd.R_lit (Kd.int .i64) _ 2 ?hg (N := 7) ?hd (xs := ([2, 3, 4, 6, 12] : List Int)) (inner := [.int .i64 2, .int .i64 3, .int .i64 4, .int .i64 6, .int .i64 12]) (ok := fun _ => True) (okp := fun _ => True) ?hr ?hp (fun _ hk => hk) trivial (Below.refl _ _) (Nat.le_refl _) (by simp) ?_; (case hd => rfl); (case hg => rfl); (case hr => exact ZqT); (case hp => exact (Reps.one (show Kd.M (Kd.int .i64) _ _ _ 2 [.int .i64 2] from rfl) (Reps.one (show Kd.M (Kd.int .i64) _ _ _ 3 [.int .i64 3] from rfl) (Reps.one (show Kd.M (Kd.int .i64) _ _ _ 4 [.int .i64 4] from rfl) (Reps.one (show Kd.M (Kd.int .i64) _ _ _ 6 [.int .i64 6] from rfl) (Reps.one (show Kd.M (Kd.int .i64) _ _ _ 12 [.int .i64 12] from rfl) (Reps.none _ _))))))); intro v214 w7 ho8 hb hg_ hnew_; clear hg_ hnew_; (first | rw [← Ny213.out] at ho8 | (simp only [Int.reduceToNat] at ho8; rw [← Ny213.out] at ho8)); have n0_ := Aside0.mk (Kd.R_lower ho8 (keep_size (w := w) (g := g) (row := none) (by exact Zq27))); have n1_ := Aside0.mk (IsS176.below (by exact Zq25) hb); have n2_ := ZL BK209 hb; have n3_ := Aside0.mk (KeepBut.trans (by exact Zq27) (KeepBut.of_below hb g none) (.inl rfl)); have n4_ := Aside0.mk (below_step (by exact Zq26) hb); clear HI0 BK209 HK HB; have HO215 := n0_; have HI0 := n1_; have BK209 := n2_; have HK := n3_; have HB := n4_; clear n0_ n1_ n2_ n3_ n4_; clear hb ho8; obtain ⟨Ao9, co9, eo9⟩ := Kd.R_slice HO215.out; subst eo9) | ((with_reducible refine gate_callee (f := 136) rfl ?_); refine goesL_ (some 8) rfl rfl Try.func136 (by kernel_rfl) rfl #[.pointer (some ⟨g, 0, none⟩), .slice Ao9 y213.length co9] rfl ZA ?_; (with_reducible refine (spec_l01Pick.calls g s0_0 t211 t212 _ _ y213 t216 t217 t218 w0 _ ?side1 ?side2 ?side3 ?side4 ?side5 A3.out).mono ?_); (case side1 => exact Zq25); (case side2 => exact Zq26); (case side3 => exact ZqC ((Kd.R_reads' HO215.out).2.2)); (case side4 => exact (Kd.R_reads' HO215.out).2.1); (case side5 => exact far_slice (IsS176.own_ne HI0.out HO215.out (by decide))); rintro e w10 ⟨rfl, hi, hb, hk⟩; refine ⟨_, rfl, ?_⟩; have n0_ := Aside0.mk (KeepBut.blk hk (g' := gb209) (o := .cells #[.int .i64 0, .slice none 0 0, .slice none 0 0] 26 (0, 0)) (ZK BK209) NB209_0.out (by simp)); have n1_ := Aside0.mk (Kd.R_mono (Kd.R_keep (IsS176.apart (show IsS176 w0 _ g s0_0 t211 t212 from by exact Zq25) (ZR HO215) (by decide)) hk (fun _ h => h.2)) (fun _ h => h.1)); have n2_ := Aside0.mk (KeepBut.trans (by exact Zq27) hk (.inl rfl)); have n3_ := Aside0.mk (hb); have n4_ := Aside0.mk (hi); clear BK209 HO215 HK HB HI0; have BK209 := n0_; have HO215 := n1_; have HK := n2_; have HB := n3_; have HI0 := n4_; clear n0_ n1_ n2_ n3_ n4_; (try clear hb); (try clear hk); (try clear hi)) | ((with_reducible refine gate_callee (f := 178) rfl ?_); refine goesL_ (some 9) rfl rfl Try.func178 (by kernel_rfl) rfl #[.pointer (some ⟨g, 0, none⟩), .int .i64 t210, .int .i64 t216] rfl ZA ?_; (with_reducible refine (spec_l03DrawOf.calls k g s0_0 t217 t218 t210 t216 t219 t220 t223 t226 t227 w0 _ ?side1 ?side2 A4.out).mono ?_); (case side1 => exact Zq25); (case side2 => exact Zq26); rintro e w11 ⟨v221, v224, rfl, ho0, ho1, hi, hb, hk⟩; refine ⟨_, rfl, ?_⟩; have n0_ := Aside0.mk (KeepBut.blk hk (g' := gb209) (o := .cells #[.int .i64 0, .slice none 0 0, .slice none 0 0] 26 (0, 0)) (ZK BK209) NB209_0.out (by simp)); have n1_ := Aside0.mk (Kd.R_mono (Kd.R_told (Kd.R_told (Kd.R_oldK (IsS176.apart (show IsS176 w0 _ g s0_0 t217 t218 from by exact Zq25) (ZR HO215) (by decide)) hk) (Kd.R_base ho0)) (Kd.R_base ho1)) (fun _ h_ => h_.1)); have n2_ := Aside0.mk (Kd.R_lower (Kd.R_new' ho0 (Kd.R_lt (ZR HO215))) (keep_size (w := w) (g := g) (row := none) (by exact Zq27))); have n3_ := Aside0.mk (Kd.R_lower (Kd.R_new' ho1 (Kd.R_lt (ZR HO215))) (keep_size (w := w) (g := g) (row := none) (by exact Zq27))); have n4_ := Aside0.mk (KeepBut.trans (by exact Zq27) hk (.inl rfl)); have n5_ := Aside0.mk (hb); have n6_ := Aside0.mk (hi); clear BK209 HO215 HK HB HI0; have BK209 := n0_; have HO215 := n1_; have HO222 := n2_; have HO225 := n3_; have HK := n4_; have HB := n5_; have HI0 := n6_; clear n0_ n1_ n2_ n3_ n4_ n5_ n6_; (try clear hb); (try clear hk); (try clear hi); (try clear ho0); (try clear ho1); have hnb12 := NB209_0.out; have hnc12 := NB0_209.out; obtain ⟨hcz13_0, hcz13_1, hcz13_2, hfz13_0, hfz13_1, hfz13_2⟩ := ZD3 BK209; obtain ⟨Ao14, co14, eo14⟩ := Kd.R_slice HO222.out; subst eo14; obtain ⟨Ao15, co15, eo15⟩ := Kd.R_slice HO225.out; subst eo15))
 refine bodyPost_ret (results_cell_row rfl _ _ gb209 26 #[.int .i64 t219, .slice Ao14 t220.length co14, .slice Ao15 t223.length co15] (0, 0) _ rfl (by refine ZS ?_; refine blk_put (cs := #[.int .i64 t219, .slice Ao14 t220.length co14, .slice none 0 0]) ?_ 2 _ rfl; refine ZS ?_; refine blk_put (cs := #[.int .i64 t219, .slice none 0 0, .slice none 0 0]) ?_ 1 _ rfl; refine ZS ?_; refine blk_put (cs := #[.int .i64 0, .slice none 0 0, .slice none 0 0]) ?_ 0 _ rfl; refine ZS ?_; exact BK209.out) Try.underlying26 rfl (by kernel_rfl)) rfl ?_
 exact ⟨_, _, ZqR, by refine ZQ ?_; exact Kd.R_mono (Kd.R_far (p := ⟨gb209, 2, none⟩) (Kd.R_far (p := ⟨gb209, 1, none⟩) (Kd.R_far (p := ⟨gb209, 0, none⟩) (Kd.R_types HO222.out BK209.out (by decide)) (fun _ hk => hk.2) (.int .i64 t219)) (fun _ hk => hk.2) (.slice Ao14 t220.length co14)) (fun _ hk => hk.2) (.slice Ao15 t223.length co15)) (fun _ hk => hk.1.1), by refine ZQ ?_; exact Kd.R_mono (Kd.R_far (p := ⟨gb209, 2, none⟩) (Kd.R_far (p := ⟨gb209, 1, none⟩) (Kd.R_far (p := ⟨gb209, 0, none⟩) (Kd.R_types HO225.out BK209.out (by decide)) (fun _ hk => hk.2) (.int .i64 t219)) (fun _ hk => hk.2) (.slice Ao14 t220.length co14)) (fun _ hk => hk.2) (.slice Ao15 t223.length co15)) (fun _ hk => hk.1.1), by exact Zq25, by exact Zq26, by exact Zq27⟩

/-! ### spec_l03Spoil: function 148 -/
def spec_l03Spoil.f (k : Nat) (s0_0 : List Int) (s0_1 : Int) (s0_2 : Int) : Option (Int × List Int × List Int × Int × Int) := (spec_l03Draw.f k s0_0 s0_1 s0_2).bind fun bt229 => ((spec_l03Bad.f s0_0 bt229.2.2.2.1 bt229.2.2.2.2 bt229.1 bt229.2.1 bt229.2.2.1).bind fun bt238 => (some (bt238.1, bt238.2.1, bt238.2.2.1, bt238.2.2.2.1, bt238.2.2.2.2)))
theorem spec_l03Spoil.mono : ∀ a0 a1 a2 k, LeO (spec_l03Spoil.f k a0 a1 a2) (spec_l03Spoil.f (k + 1) a0 a1 a2) := by
 intro a0 a1 a2 k
 unfold spec_l03Spoil.f
 repeat' first
   | (with_reducible exact spec_l03Draw.mono _ _ _ _)
   | (with_reducible exact LeO.refl _)
   | (with_reducible exact LeO.none _)
   | (with_reducible refine LeO.ite ?_ ?_)
   | (with_reducible refine LeO.bind ?_ (fun _ => ?_))
   | exact spec_l03Draw.mono _ _ _ _
   | exact LeO.none _
   | refine LeO.ite ?_ ?_
   | refine LeO.bind ?_ (fun _ => ?_)
set_option maxHeartbeats 8000000 in
set_option maxRecDepth 100000 in
theorem spec_l03Spoil.calls (k : Nat) (g : Nat) (s0_0 : List Int) (s0_1 : Int) (s0_2 : Int) (r1 : Int) (r2 : List Int) (r3 : List Int) (r4 : Int) (r5 : Int) (w0 w : World) (hI : IsS176 w0 w g s0_0 s0_1 s0_2) (hB : Below w0.heap.size w0 w) (h : spec_l03Spoil.f k s0_0 s0_1 s0_2 = some (r1, r2, r3, r4, r5)) :
  Calls Try.prog 148 #[.pointer (some ⟨g, 0, none⟩)] w fun e w' => ∃ v1_ v2_ : Value, e = .returned (.agg #[.int .i64 r1, v1_, v2_]) ∧ Kd.R (Kd.int .i64) 2 w' w.heap.size (fun k_ => some k_ ≠ (v2_ : Value).ownBlock) v1_ r2 ∧ Kd.R (Kd.int .i64) 2 w' w.heap.size (fun k_ => some k_ ≠ (v1_ : Value).ownBlock) v2_ r3 ∧ IsS176 w0 w' g s0_0 r4 r5 ∧ Below w0.heap.size w0 w' ∧ KeepBut w w' g none := by
 have hu26 := Try.underlying26
 have HI0 := Aside0.mk hI
 have HK := Aside0.mk (KeepBut.refl w g none)
 have HL := Aside0.mk hB.size
 clear hI
 have HW0 := Aside0.mk hB.size
 have HB := Aside0.mk hB
 clear hB
 have H : ((spec_l03Draw.f k s0_0 s0_1 s0_2).bind fun bt229 => ((spec_l03Bad.f s0_0 bt229.2.2.2.1 bt229.2.2.2.2 bt229.1 bt229.2.1 bt229.2.2.1).bind fun bt238 => (some (bt238.1, bt238.2.1, bt238.2.2.1, bt238.2.2.2.1, bt238.2.2.2.2)))) = some (r1, r2, r3, r4, r5) := h
 clear h
 replace H := Option.bind_eq_some_iff.mp H
 obtain ⟨⟨t229, t230, t233, t236, t237⟩, A20, H⟩ := H
 try dsimp only at H
 have A2 := Aside0.mk A20
 clear A20
 replace H := Option.bind_eq_some_iff.mp H
 obtain ⟨⟨t238, t239, t242, t245, t246⟩, A30, H⟩ := H
 try dsimp only at H
 have A3 := Aside0.mk A30
 clear A30
 simp only [Option.some.injEq, Prod.mk.injEq] at H
 obtain ⟨rfl, rfl, rfl, rfl, rfl⟩ := H
 go_enter Try.func148, Try.ntmps148
 go_wp2_with (first | ((with_reducible refine gate_dst (N := 2) rfl ?_); refine box_event ?hg (N := 2) ?hd (cs := #[.int .i64 0, .slice none 0 0, .slice none 0 0]) (t := 26) ?hr ?_; (case hd => rfl); (case hg => rfl); (case hr => exact ZqT); intro gb228 hg w4 hbox hb; have n0_ := Aside0.mk (IsS176.below (by exact Zq3) hb); have n1_ := Aside0.mk (KeepBut.trans (by exact Zq5) (KeepBut.of_below hb g none) (.inl rfl)); have n2_ := Aside0.mk (below_step (by exact Zq4) hb); have n3_ := Aside0.mk (hbox); have n4_ := Aside0.mk ((by rw [hg]; exact (keep_size (w := w) (g := g) (row := none) (by exact Zq5)) : w.heap.size ≤ gb228)); have n5_ := Aside0.mk ((Nat.le_trans HW0.out (by rw [hg]; exact (keep_size (w := w) (g := g) (row := none) (by exact Zq5)) : w.heap.size ≤ gb228) : w0.heap.size ≤ gb228)); have n6_ := Aside0.mk ((by rw [hg]; exact Nat.ne_of_lt (IsS176.lt (show IsS176 w0 _ g s0_0 s0_1 s0_2 from by exact Zq3)) : g ≠ gb228)); have n7_ := Aside0.mk ((by rw [hg]; exact Nat.ne_of_gt (IsS176.lt (show IsS176 w0 _ g s0_0 s0_1 s0_2 from by exact Zq3)) : gb228 ≠ g)); clear HI0 HK HB; have HI0 := n0_; have HK := n1_; have HB := n2_; have BK228 := n3_; have GW228 := n4_; have GE228 := n5_; have NB0_228 := n6_; have NB228_0 := n7_; clear n0_ n1_ n2_ n3_ n4_ n5_ n6_ n7_; clear hb hbox hg) | ((with_reducible refine gate_callee (f := 227) rfl ?_); refine goesL_ (some 5) rfl rfl Try.func227 (by kernel_rfl) rfl #[.pointer (some ⟨g, 0, none⟩)] rfl ZA ?_; (with_reducible refine (spec_l03Draw.calls k g s0_0 s0_1 s0_2 t229 t230 t233 t236 t237 w0 _ ?side1 ?side2 A2.out).mono ?_); (case side1 => exact Zq28); (case side2 => exact Zq29); rintro e w5 ⟨v231, v234, rfl, ho0, ho1, hi, hb, hk⟩; refine ⟨_, rfl, ?_⟩; have n0_ := Aside0.mk (KeepBut.blk hk (g' := gb228) (o := .cells #[.int .i64 0, .slice none 0 0, .slice none 0 0] 26 (0, 0)) (ZK BK228) NB228_0.out (by simp)); have n1_ := Aside0.mk (Kd.R_lower ho0 (keep_size (w := w) (g := g) (row := none) (by exact Zq30))); have n2_ := Aside0.mk (Kd.R_lower ho1 (keep_size (w := w) (g := g) (row := none) (by exact Zq30))); have n3_ := Aside0.mk (KeepBut.trans (by exact Zq30) hk (.inl rfl)); have n4_ := Aside0.mk (hb); have n5_ := Aside0.mk (hi); clear BK228 HK HB HI0; have BK228 := n0_; have HO232 := n1_; have HO235 := n2_; have HK := n3_; have HB := n4_; have HI0 := n5_; clear n0_ n1_ n2_ n3_ n4_ n5_; (try clear hb); (try clear hk); (try clear hi); (try clear ho0); (try clear ho1); obtain ⟨Ao6, co6, eo6⟩ := Kd.R_slice HO232.out; subst eo6; obtain ⟨Ao7, co7, eo7⟩ := Kd.R_slice HO235.out; subst eo7) | ((with_reducible refine gate_callee (f := 226) rfl ?_); refine goesL_ (some 6) rfl rfl Try.func226 (by kernel_rfl) rfl #[.pointer (some ⟨g, 0, none⟩), .agg #[.int .i64 t229, .slice Ao6 t230.length co6, .slice Ao7 t233.length co7]] rfl ZA ?_; (with_reducible refine (spec_l03Bad.calls g s0_0 t236 t237 t229 (fun k_ => some k_ = (.slice Ao6 t230.length co6 : Value).ownBlock) (.slice Ao6 t230.length co6) t230 (fun k_ => some k_ = (.slice Ao7 t233.length co7 : Value).ownBlock) (.slice Ao7 t233.length co7) t233 t238 t239 t242 t245 t246 w0 _ ?side1 ?side2 ?side3 ?side4 ?side5 ?side6 A3.out).mono ?_); (case side1 => exact Zq28); (case side2 => exact Zq29); (case side3 => exact Kd.R_lower (Kd.R_tight rfl HO232.out) HL.out); (case side4 => exact fun k_ e_ => (HO232.out.1 k_ e_.symm)); (case side5 => exact Kd.R_lower (Kd.R_tight rfl HO235.out) HL.out); (case side6 => exact fun k_ e_ => (HO235.out.1 k_ e_.symm)); rintro e w8 ⟨v240, v243, rfl, ho0, ho1, hi, hb, hkp⟩; refine ⟨_, rfl, ?_⟩; have n0_ := Aside0.mk (hi); have n1_ := Aside0.mk (blk_kept (ZK BK228) hkp (fun hs_ => Or.elim hs_ (fun hs_ => Or.elim hs_ (fun e_ => (fun e_ => (Kd.R_ne HO232.out BK228.out (by decide)) e_) e_) (fun e_ => (fun e_ => (Kd.R_ne HO235.out BK228.out (by decide)) e_) e_)) (fun e_ => NB228_0.out e_))); have n2_ := Aside0.mk (Kd.R_mono (ok' := fun k_ => some k_ ≠ (v243 : Value).ownBlock) (Kd.R_raise (d := (Kd.int .i64)) (b := w0.heap.size) (b' := w.heap.size) (fun _ _ _ _ h_ => h_) ho0 (fun k_ e_ => Or.elim (ho0.1 k_ e_).1 (fun hs_ => Or.elim hs_ (fun e_ => (fun e_ => Kd.R_base HO232.out k_ e_.symm) e_) (fun e_ => (fun e_ => Kd.R_base HO235.out k_ e_.symm) e_)) (fun hn_ => Nat.le_trans (keep_size (w := w) (g := g) (row := none) (by exact Zq30)) hn_))) (fun k_ hk_ => hk_.2)); have n3_ := Aside0.mk (Kd.R_mono (ok' := fun k_ => some k_ ≠ (v240 : Value).ownBlock) (Kd.R_raise (d := (Kd.int .i64)) (b := w0.heap.size) (b' := w.heap.size) (fun _ _ _ _ h_ => h_) ho1 (fun k_ e_ => Or.elim (ho1.1 k_ e_).1 (fun hs_ => Or.elim hs_ (fun e_ => (fun e_ => Kd.R_base HO232.out k_ e_.symm) e_) (fun e_ => (fun e_ => Kd.R_base HO235.out k_ e_.symm) e_)) (fun hn_ => Nat.le_trans (keep_size (w := w) (g := g) (row := none) (by exact Zq30)) hn_))) (fun k_ hk_ => hk_.2)); have n4_ := Aside0.mk (Kept.keepG (by exact Zq30) hkp (fun k_ hs_ => Or.elim hs_ (fun hs_ => Or.elim hs_ (fun e_ => (fun e_ => .inr (Kd.R_base HO232.out k_ e_.symm)) e_) (fun e_ => (fun e_ => .inr (Kd.R_base HO235.out k_ e_.symm)) e_)) (fun e_ => .inl e_))); have n5_ := Aside0.mk (hb); clear HI0 BK228 HK HB HO232 HO235; have HI0 := n0_; have BK228 := n1_; have HO241 := n2_; have HO244 := n3_; have HK := n4_; have HB := n5_; clear n0_ n1_ n2_ n3_ n4_ n5_; (try clear hb); (try clear hkp); (try clear ho0); (try clear ho1); have hnb9 := NB228_0.out; have hnc9 := NB0_228.out; obtain ⟨hcz10_0, hcz10_1, hcz10_2, hfz10_0, hfz10_1, hfz10_2⟩ := ZD3 BK228; obtain ⟨Ao11, co11, eo11⟩ := Kd.R_slice HO241.out; subst eo11; obtain ⟨Ao12, co12, eo12⟩ := Kd.R_slice HO244.out; subst eo12))
 refine bodyPost_ret (results_cell_row rfl _ _ gb228 26 #[.int .i64 t238, .slice Ao11 t239.length co11, .slice Ao12 t242.length co12] (0, 0) _ rfl (by refine ZS ?_; refine blk_put (cs := #[.int .i64 t238, .slice Ao11 t239.length co11, .slice none 0 0]) ?_ 2 _ rfl; refine ZS ?_; refine blk_put (cs := #[.int .i64 t238, .slice none 0 0, .slice none 0 0]) ?_ 1 _ rfl; refine ZS ?_; refine blk_put (cs := #[.int .i64 0, .slice none 0 0, .slice none 0 0]) ?_ 0 _ rfl; refine ZS ?_; exact BK228.out) Try.underlying26 rfl (by kernel_rfl)) rfl ?_
 exact ⟨_, _, ZqR, by refine ZQ ?_; exact Kd.R_mono (Kd.R_far (p := ⟨gb228, 2, none⟩) (Kd.R_far (p := ⟨gb228, 1, none⟩) (Kd.R_far (p := ⟨gb228, 0, none⟩) (Kd.R_types HO241.out BK228.out (by decide)) (fun _ hk => hk.2) (.int .i64 t238)) (fun _ hk => hk.2) (.slice Ao11 t239.length co11)) (fun _ hk => hk.2) (.slice Ao12 t242.length co12)) (fun _ hk => hk.1), by refine ZQ ?_; exact Kd.R_mono (Kd.R_far (p := ⟨gb228, 2, none⟩) (Kd.R_far (p := ⟨gb228, 1, none⟩) (Kd.R_far (p := ⟨gb228, 0, none⟩) (Kd.R_types HO244.out BK228.out (by decide)) (fun _ hk => hk.2) (.int .i64 t238)) (fun _ hk => hk.2) (.slice Ao11 t239.length co11)) (fun _ hk => hk.2) (.slice Ao12 t242.length co12)) (fun _ hk => hk.1), by exact Zq28, by exact Zq29, by exact Zq30⟩

/-! ### spec_l01In: function 126 -/
def spec_l01In.f (a0 : Int) (a1 : Int) (a2 : Int) : Option (Bool) := if a0 ≥ a1 then (some (decide (a0 ≤ a2))) else (some false)
set_option maxHeartbeats 8000000 in
set_option maxRecDepth 100000 in
theorem spec_l01In.calls (a0 : Int) (a1 : Int) (a2 : Int) (r : Bool) (w : World) (h : spec_l01In.f a0 a1 a2 = some r) :
  Calls Try.prog 126 #[.int .i64 a0, .int .i64 a1, .int .i64 a2] w fun e w' => e = .returned (.bool r) ∧ Drawn0 w w' := by
 have H : (if a0 ≥ a1 then (some (decide (a0 ≤ a2))) else (some false)) = some r := h
 clear h
 by_cases c4 : a0 ≥ a1
 ·rw [if_pos c4] at H
  have c4b0 : decide (a1 ≤ a0) = true := decide_eq_true c4
  clear c4
  obtain rfl := Option.some.inj H
  go_enter Try.func126, Try.ntmps126
  go_wp2
  go_ret
  exact ⟨ZqS, by repeat (first | exact Drawn0.refl _ | apply Drawn0.step)⟩
 ·rw [if_neg c4] at H
  have c4b0 : decide (a1 ≤ a0) = false := decide_eq_false c4
  clear c4
  obtain rfl := Option.some.inj H
  go_enter Try.func126, Try.ntmps126
  go_wp2
  go_ret
  exact ⟨ZqS, by repeat (first | exact Drawn0.refl _ | apply Drawn0.step)⟩

/-! ### spec_l01Prime: function 197 -/
def spec_l01Prime.l0 : Nat → Int → Int → Option (Bool)
 | 0, _, _ => none
 | k + 1, x0, x3 => if (wrap64 (x3 * x3)) ≤ x0 then (if x3 = 0 then (none) else (if (Int.tmod x0 x3) = 0 then (some false) else (spec_l01Prime.l0 k x0 (wrap64 (x3 + 1))))) else (some true)
def spec_l01Prime.f (k : Nat) (a0 : Int) : Option (Bool) := (spec_l01In.f a0 2 10007).bind fun t247 => (if t247 = true then (spec_l01Prime.l0 k a0 2) else (some false))
theorem spec_l01Prime.mono_l : ∀ k, (∀ y0 y1, LeO (spec_l01Prime.l0 k y0 y1) (spec_l01Prime.l0 (k + 1) y0 y1))
 | 0 => fun _ _ r h => by simp [spec_l01Prime.l0] at h
 | k + 1 => by
  have ih0 := spec_l01Prime.mono_l k
  ·intro y0 y1
   unfold spec_l01Prime.l0
   repeat' first
   | (with_reducible exact ih0 _ _)
   | (with_reducible exact LeO.refl _)
   | (with_reducible exact LeO.none _)
   | (with_reducible refine LeO.ite ?_ ?_)
   | (with_reducible refine LeO.bind ?_ (fun _ => ?_))
   | exact ih0 _ _
   | exact LeO.none _
   | refine LeO.ite ?_ ?_
   | refine LeO.bind ?_ (fun _ => ?_)
theorem spec_l01Prime.mono : ∀ a0 k, LeO (spec_l01Prime.f k a0) (spec_l01Prime.f (k + 1) a0) := by
 intro a0 k
 have ih0 := spec_l01Prime.mono_l k
 unfold spec_l01Prime.f
 repeat' first
   | (with_reducible exact ih0 _ _)
   | (with_reducible exact LeO.refl _)
   | (with_reducible exact LeO.none _)
   | (with_reducible refine LeO.ite ?_ ?_)
   | (with_reducible refine LeO.bind ?_ (fun _ => ?_))
   | exact ih0 _ _
   | exact LeO.none _
   | refine LeO.ite ?_ ?_
   | refine LeO.bind ?_ (fun _ => ?_)
set_option maxHeartbeats 8000000 in
set_option maxRecDepth 100000 in
theorem spec_l01Prime.calls (k : Nat) (a0 : Int) (r : Bool) (w : World) (h : spec_l01Prime.f k a0 = some r) :
  Calls Try.prog 197 #[.int .i64 a0] w fun e w' => e = .returned (.bool r) ∧ Drawn0 w w' := by
 have H : ((spec_l01In.f a0 2 10007).bind fun t247 => (if t247 = true then (spec_l01Prime.l0 k a0 2) else (some false))) = some r := h
 clear h
 replace H := Option.bind_eq_some_iff.mp H
 obtain ⟨t247, A20, H⟩ := H
 try dsimp only at H
 have A2 := Aside0.mk A20
 clear A20
 by_cases c3 : t247 = true
 ·subst c3
  rw [if_pos rfl] at H
  have H' := Aside0.mk H
  clear H
  go_enter Try.func197, Try.ntmps197
  go_wp2_with (first | ((with_reducible refine gate_callee (f := 126) rfl ?_); refine goesL_ (some 5) rfl rfl Try.func126 (by kernel_rfl) rfl #[.int .i64 a0, .int .i64 2, .int .i64 10007] rfl ZA ?_; (with_reducible refine (spec_l01In.calls a0 2 10007 true _ A2.out).mono ?_); rintro e w' ⟨rfl, ⟨nd, rfl⟩⟩; refine ⟨_, rfl, ?_⟩))
  go_loopg [3] k (fun kq v3 w' => ∃ (x3_1 : Int), v3 = .int .i64 x3_1 ∧ Aside0 (spec_l01Prime.l0 kq a0 x3_1 = some r) ∧ Aside0 (kq ≤ k) ∧ Drawn0 w w')
  case atStart => exact ⟨(2), (ZqS), H', ⟨Nat.le_refl _⟩, by repeat (first | exact Drawn0.refl _ | apply Drawn0.step)⟩
  case round =>
   clear H'
   try clear c1
   try clear p2
   try clear c3
   obtain ⟨x3_1, rfl, HA, HK1, ⟨m1, rfl⟩⟩ := hrel
   cases gk with
   | zero => exact absurd HA.out (by simp [spec_l01Prime.l0])
   | succ k1 =>
    have H := HA.out
    clear HA
    simp only [spec_l01Prime.l0] at H
    by_cases c4 : (wrap64 (x3_1 * x3_1)) ≤ a0
    ·rw [if_pos c4] at H
     have c4b0 : decide ((wrap64 (x3_1 * x3_1)) ≤ a0) = true := decide_eq_true c4
     clear c4
     by_cases c5 : x3_1 = 0
     ·rw [if_pos c5] at H
      exact absurd H (by simp)
     ·rw [if_neg c5] at H
      have c5b0 : (x3_1 == 0) = false := beq_eq_false_iff_ne.mpr c5
      have c5b1 : (x3_1 != 0) = true := bne_iff_ne.mpr c5
      by_cases c6 : (Int.tmod a0 x3_1) = 0
      ·rw [if_pos c6] at H
       have c6b0 : ((Int.tmod a0 x3_1) == 0) = true := beq_iff_eq.mpr c6
       have c6b1 : ((Int.tmod a0 x3_1) != 0) = false := bne_eq_false_iff_eq.mpr c6
       clear c6
       obtain rfl := Option.some.inj H
       go_wp2
       go_ret
       exact ⟨ZqS, by repeat (first | exact Drawn0.refl _ | apply Drawn0.step)⟩
      ·rw [if_neg c6] at H
       have c6b0 : ((Int.tmod a0 x3_1) == 0) = false := beq_eq_false_iff_ne.mpr c6
       have c6b1 : ((Int.tmod a0 x3_1) != 0) = true := bne_iff_ne.mpr c6
       have H' := Aside0.mk H
       clear H
       go_wp2
       go_roundg k1
       case measure => have := HK1.out; omega
       case rel => exact ⟨(wrap64 (x3_1 + 1)), (ZqS), H', ⟨by have := HK1.out; omega⟩, by repeat (first | exact Drawn0.refl _ | apply Drawn0.step)⟩
    ·rw [if_neg c4] at H
     have c4b0 : decide ((wrap64 (x3_1 * x3_1)) ≤ a0) = false := decide_eq_false c4
     clear c4
     obtain rfl := Option.some.inj H
     go_wp2
     go_ret
     exact ⟨ZqS, by repeat (first | exact Drawn0.refl _ | apply Drawn0.step)⟩
 ·replace c3 := Bool.eq_false_iff.mpr c3
  subst c3
  rw [if_neg (show ¬ (false = true) by decide)] at H
  obtain rfl := Option.some.inj H
  go_enter Try.func197, Try.ntmps197
  go_wp2_with (first | ((with_reducible refine gate_callee (f := 126) rfl ?_); refine goesL_ (some 5) rfl rfl Try.func126 (by kernel_rfl) rfl #[.int .i64 a0, .int .i64 2, .int .i64 10007] rfl ZA ?_; (with_reducible refine (spec_l01In.calls a0 2 10007 false _ A2.out).mono ?_); rintro e w' ⟨rfl, ⟨nd, rfl⟩⟩; refine ⟨_, rfl, ?_⟩))
  go_ret
  exact ⟨ZqS, by repeat (first | exact Drawn0.refl _ | apply Drawn0.step)⟩

end Go.Proofs.Ytlodpobegdbhaaa.X
