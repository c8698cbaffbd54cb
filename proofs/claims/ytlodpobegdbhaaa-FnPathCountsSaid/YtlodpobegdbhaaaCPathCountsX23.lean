/- Contracts of functions that the law reaches, printed by a program of this session; Lean checks them. -/
import Derived.Test.YtlodpobegdbhaaaCPathCountsX0
import Derived.Test.YtlodpobegdbhaaaCPathCountsX22
import Derived.Test.YtlodpobegdbhaaaCPathCountsX3
import Derived.Test.YtlodpobegdbhaaaCPathCountsXZ
namespace Go.Proofs.Ytlodpobegdbhaaa.X
open Go.RowKit Go.Proofs.YtlodpobegdbhaaaW.PrintWords Go.Proofs.YtlodpobegdbhaaaW.PrintLast Go.Proofs.YtlodpobegdbhaaaW.PrintMore
attribute [local go_sem] max2_int min2_int max_two min_two max_three min_three max_four min_four   -- for this text's walks alone
set_option linter.unusedVariables false
set_option linter.unusedSimpArgs false

/-! ### impl_pathsOf: function 139 -/
mutual
def impl_pathsOf.j0 : Nat → Int → Int → Int → Int → Bool → Option (List ByteArray)
 | 0, _, _, _, _, _ => none
 | k + 1, x0, x1, x2, x3, x23 => if x23 = true then (some ([] : List ByteArray)) else (if x0 = 0 then (some (([(⟨#[]⟩ : ByteArray)] : List ByteArray))) else ((some (([wrap64 (x1 - 1), x1, wrap64 (x1 + 1)] : List Int) : List Int)).bind fun y880 => (impl_pathsOf.l0 k x0 x2 x3 ([] : List ByteArray) y880 (y880.length : Int) 0)))
def impl_pathsOf.l0 : Nat → Int → Int → Int → List ByteArray → List Int → Int → Int → Option (List ByteArray)
 | 0, _, _, _, _, _, _, _ => none
 | k + 1, x0, x2, x3, x9, x32, x33, x34 => if x34 < x33 then (if 0 ≤ x34 then (if x34 < (x32.length : Int) then ((impl_pathsOf.f k (wrap64 (x0 - 1)) (rd x32 x34) x2 x3).bind fun t884 => (impl_pathsOf.l1 k x0 x2 x3 x9 x34 x32 x33 x34 t884 (t884.length : Int) 0)) else (none)) else (none)) else (some x9)
def impl_pathsOf.l1 : Nat → Int → Int → Int → List ByteArray → Int → List Int → Int → Int → List ByteArray → Int → Int → Option (List ByteArray)
 | 0, _, _, _, _, _, _, _, _, _, _, _ => none
 | k + 1, x0, x2, x3, x9, x10, x32, x33, x34, x44, x45, x46 => if x46 < x45 then (if 0 ≤ x46 then (if x46 < (x44.length : Int) then (if 0 ≤ x10 then (if x10 ≤ (wrap64 (x10 + 1)) then (if (wrap64 (x10 + 1)) ≤ 3 then (if ((⟨#[68, 76, 85]⟩ : ByteArray).extract (x10 : Int).toNat ((wrap64 (x10 + 1)) : Int).toNat).size + (rdOf ByteArray.empty x44 x46).size ≤ 9223372036854775807 then (if x9.length < 8796093022208 then (impl_pathsOf.l1 k x0 x2 x3 (x9 ++ [((⟨#[68, 76, 85]⟩ : ByteArray).extract (x10 : Int).toNat ((wrap64 (x10 + 1)) : Int).toNat) ++ (rdOf ByteArray.empty x44 x46)]) x10 x32 x33 x34 x44 x45 (wrap64 (x46 + 1))) else (none)) else (none)) else (none)) else (none)) else (none)) else (none)) else (none)) else (impl_pathsOf.l0 k x0 x2 x3 x9 x32 x33 (wrap64 (x34 + 1)))
def impl_pathsOf.f : Nat → Int → Int → Int → Int → Option (List ByteArray)
 | 0, _, _, _, _ => none
 | k + 1, a0, a1, a2, a3 => if a1 < 0 then (impl_pathsOf.j0 k a0 a1 a2 a3 true) else ((impl_countPaths.f k a0 a1 a2 a3 true).bind fun t876 => (impl_pathsOf.j0 k a0 a1 a2 a3 (t876 == 0)))
end
theorem impl_pathsOf.mono_l : ∀ k, (∀ y0 y1 y2 y3, LeO (impl_pathsOf.f k y0 y1 y2 y3) (impl_pathsOf.f (k + 1) y0 y1 y2 y3)) ∧ (∀ y0 y1 y2 y3 y4, LeO (impl_pathsOf.j0 k y0 y1 y2 y3 y4) (impl_pathsOf.j0 (k + 1) y0 y1 y2 y3 y4)) ∧ (∀ y0 y1 y2 y3 y4 y5 y6, LeO (impl_pathsOf.l0 k y0 y1 y2 y3 y4 y5 y6) (impl_pathsOf.l0 (k + 1) y0 y1 y2 y3 y4 y5 y6)) ∧ (∀ y0 y1 y2 y3 y4 y5 y6 y7 y8 y9 y10, LeO (impl_pathsOf.l1 k y0 y1 y2 y3 y4 y5 y6 y7 y8 y9 y10) (impl_pathsOf.l1 (k + 1) y0 y1 y2 y3 y4 y5 y6 y7 y8 y9 y10))
 | 0 => ⟨fun _ _ _ _ r h => by simp [impl_pathsOf.f] at h, fun _ _ _ _ _ r h => by simp [impl_pathsOf.j0] at h, fun _ _ _ _ _ _ _ r h => by simp [impl_pathsOf.l0] at h, fun _ _ _ _ _ _ _ _ _ _ _ r h => by simp [impl_pathsOf.l1] at h⟩
 | k + 1 => by
  obtain ⟨ih0, ih1, ih2, ih3⟩ := impl_pathsOf.mono_l k
  refine ⟨?_, ?_, ?_, ?_⟩
  ·intro y0 y1 y2 y3
   unfold impl_pathsOf.f
   repeat' first
   | (with_reducible exact ih0 _ _ _ _)
   | (with_reducible exact ih1 _ _ _ _ _)
   | (with_reducible exact ih2 _ _ _ _ _ _ _)
   | (with_reducible exact ih3 _ _ _ _ _ _ _ _ _ _ _)
   | (with_reducible exact impl_countPaths.mono _ _ _ _ _ _)
   | (with_reducible exact LeO.refl _)
   | (with_reducible exact LeO.none _)
   | (with_reducible refine LeO.ite ?_ ?_)
   | (with_reducible refine LeO.bind ?_ (fun _ => ?_))
   | exact ih0 _ _ _ _
   | exact ih1 _ _ _ _ _
   | exact ih2 _ _ _ _ _ _ _
   | exact ih3 _ _ _ _ _ _ _ _ _ _ _
   | exact impl_countPaths.mono _ _ _ _ _ _
   | exact LeO.none _
   | refine LeO.ite ?_ ?_
   | refine LeO.bind ?_ (fun _ => ?_)
  ·intro y0 y1 y2 y3 y4
   unfold impl_pathsOf.j0
   repeat' first
   | (with_reducible exact ih0 _ _ _ _)
   | (with_reducible exact ih1 _ _ _ _ _)
   | (with_reducible exact ih2 _ _ _ _ _ _ _)
   | (with_reducible exact ih3 _ _ _ _ _ _ _ _ _ _ _)
   | (with_reducible exact impl_countPaths.mono _ _ _ _ _ _)
   | (with_reducible exact LeO.refl _)
   | (with_reducible exact LeO.none _)
   | (with_reducible refine LeO.ite ?_ ?_)
   | (with_reducible refine LeO.bind ?_ (fun _ => ?_))
   | exact ih0 _ _ _ _
   | exact ih1 _ _ _ _ _
   | exact ih2 _ _ _ _ _ _ _
   | exact ih3 _ _ _ _ _ _ _ _ _ _ _
   | exact impl_countPaths.mono _ _ _ _ _ _
   | exact LeO.none _
   | refine LeO.ite ?_ ?_
   | refine LeO.bind ?_ (fun _ => ?_)
  ·intro y0 y1 y2 y3 y4 y5 y6
   unfold impl_pathsOf.l0
   repeat' first
   | (with_reducible exact ih0 _ _ _ _)
   | (with_reducible exact ih1 _ _ _ _ _)
   | (with_reducible exact ih2 _ _ _ _ _ _ _)
   | (with_reducible exact ih3 _ _ _ _ _ _ _ _ _ _ _)
   | (with_reducible exact impl_countPaths.mono _ _ _ _ _ _)
   | (with_reducible exact LeO.refl _)
   | (with_reducible exact LeO.none _)
   | (with_reducible refine LeO.ite ?_ ?_)
   | (with_reducible refine LeO.bind ?_ (fun _ => ?_))
   | exact ih0 _ _ _ _
   | exact ih1 _ _ _ _ _
   | exact ih2 _ _ _ _ _ _ _
   | exact ih3 _ _ _ _ _ _ _ _ _ _ _
   | exact impl_countPaths.mono _ _ _ _ _ _
   | exact LeO.none _
   | refine LeO.ite ?_ ?_
   | refine LeO.bind ?_ (fun _ => ?_)
  ·intro y0 y1 y2 y3 y4 y5 y6 y7 y8 y9 y10
   unfold impl_pathsOf.l1
   repeat' first
   | (with_reducible exact ih0 _ _ _ _)
   | (with_reducible exact ih1 _ _ _ _ _)
   | (with_reducible exact ih2 _ _ _ _ _ _ _)
   | (with_reducible exact ih3 _ _ _ _ _ _ _ _ _ _ _)
   | (with_reducible exact impl_countPaths.mono _ _ _ _ _ _)
   | (with_reducible exact LeO.refl _)
   | (with_reducible exact LeO.none _)
   | (with_reducible refine LeO.ite ?_ ?_)
   | (with_reducible refine LeO.bind ?_ (fun _ => ?_))
   | exact ih0 _ _ _ _
   | exact ih1 _ _ _ _ _
   | exact ih2 _ _ _ _ _ _ _
   | exact ih3 _ _ _ _ _ _ _ _ _ _ _
   | exact impl_countPaths.mono _ _ _ _ _ _
   | exact LeO.none _
   | refine LeO.ite ?_ ?_
   | refine LeO.bind ?_ (fun _ => ?_)
theorem impl_pathsOf.mono : ∀ a0 a1 a2 a3 k, LeO (impl_pathsOf.f k a0 a1 a2 a3) (impl_pathsOf.f (k + 1) a0 a1 a2 a3) := by
 intro a0 a1 a2 a3 k
 obtain ⟨ih0, ih1, ih2, ih3⟩ := impl_pathsOf.mono_l k
 exact ih0 a0 a1 a2 a3
set_option maxHeartbeats 8000000 in
set_option maxRecDepth 100000 in
theorem impl_pathsOf.calls (k : Nat) : ∀ (a0 : Int) (a1 : Int) (a2 : Int) (a3 : Int) (r : List ByteArray) (w : World) (h : impl_pathsOf.f k a0 a1 a2 a3 = some r),
  Calls Try.prog 139 #[.int .i64 a0, .int .i64 a1, .int .i64 a2, .int .i64 a3] w fun e w' => ∃ v0_ : Value, e = .returned (v0_) ∧ Kd.R Kd.string 9 w' w.heap.size (fun _ => True) v0_ r ∧ Below w.heap.size w w' := by
 induction k using Nat.strongRecOn with
 | _ k ih =>
 intro a0 a1 a2 a3 r w h
 cases k with
 | zero => exact absurd h (by simp [impl_pathsOf.f])
 | succ k =>
 simp only [impl_pathsOf.f] at h
 have HB := Aside0.mk (Below.refl w.heap.size w)
 have H : (if a1 < 0 then (impl_pathsOf.j0 k a0 a1 a2 a3 true) else ((impl_countPaths.f k a0 a1 a2 a3 true).bind fun t876 => (impl_pathsOf.j0 k a0 a1 a2 a3 (t876 == 0)))) = some r := h
 clear h
 have HC5 := Aside0.mk H
 clear H
 go_enter Try.func139, Try.ntmps139
 go_upto_region 1 with (fail)
 go_cut [23] (fun v23 wc => ∃ (kq : Nat) (x23_4 : Bool), v23 = .bool x23_4 ∧ Aside0 (impl_pathsOf.j0 kq a0 a1 a2 a3 x23_4 = some r) ∧ Aside0 (kq ≤ k) ∧ Aside0 (Below w.heap.size w wc))
 case first =>
  have H := HC5.out
  clear HC5
  by_cases c6 : a1 < 0
  ·rw [if_pos c6] at H
   have c6b0 : decide (a1 < 0) = true := decide_eq_true c6
   clear c6
   (first | rw [c6b0] | (simp only [i64_w, i32_w]; rw [c6b0]) | skip)
   have H' := Aside0.mk H
   clear H
   go_wp2
   go_meet
   case rel => exact ⟨_, (true), (ZqS), H', ⟨by first | omega | exact Nat.le_refl _⟩, ⟨ZB⟩⟩
  ·rw [if_neg c6] at H
   have c6b0 : decide (a1 < 0) = false := decide_eq_false c6
   clear c6
   (first | rw [c6b0] | (simp only [i64_w, i32_w]; rw [c6b0]) | skip)
   replace H := Option.bind_eq_some_iff.mp H
   obtain ⟨t876, A70, H⟩ := H
   try dsimp only at H
   have A7 := Aside0.mk A70
   clear A70
   have H' := Aside0.mk H
   clear H
   go_wp2_with (first | (go_at_call 138; (with_reducible refine (impl_countPaths.calls k a0 a1 a2 a3 true t876 _ A7.out).mono ?_); rintro e w8 ⟨rfl, hb⟩; have n0_ := Aside0.mk (below_step ZB hb); clear HB; have HB := n0_; clear n0_; (try clear hb)))
   go_meet
   case rel => exact ⟨_, ((t876 == 0)), (ZqS), H', ⟨by first | omega | exact Nat.le_refl _⟩, ⟨ZB⟩⟩
 case rest =>
  clear HC5
  try clear c1
  try clear p2
  try clear c6
  try clear c6b0
  obtain ⟨kq, x23_4, rfl, HA, HJ4, HB⟩ := hcut
  cases kq with
  | zero => exact absurd HA.out (by simp [impl_pathsOf.j0])
  | succ kj4 =>
   have H := HA.out
   clear HA
   simp only [impl_pathsOf.j0] at H
   by_cases c9 : x23_4 = true
   ·subst c9
    rw [if_pos rfl] at H
    obtain rfl := Option.some.inj H
    go_wp2
    go_ret
    exact ⟨_, ZqR, by first | exact Kd.R_nil _ _ _ _ _ | exact Kd.N_nil _ _ _ _ _ | exact Kd.V_nil _ _ _ _ _ | exact Kd.Q_nil _ _ _ _ _ | exact Kd.S_nil _ _ _ _ _, ZB⟩
   ·replace c9 := Bool.eq_false_iff.mpr c9
    subst c9
    rw [if_neg (show ¬ (false = true) by decide)] at H
    by_cases c10 : a0 = 0
    ·rw [if_pos c10] at H
     have c10b0 : (a0 == 0) = true := beq_iff_eq.mpr c10
     have c10b1 : (a0 != 0) = false := bne_eq_false_iff_eq.mpr c10
     clear c10
     obtain ⟨y877, hy877⟩ : ∃ y_ : List ByteArray, y_ = (([(⟨#[]⟩ : ByteArray)] : List ByteArray)) := ⟨_, rfl⟩
     replace H : (some y877) = some r := by have hq_ := hy877; exact ZqH
     have Ny877 := Aside0.mk hy877
     clear hy877
     obtain rfl := Option.some.inj H
     go_wp2_with (first | ((with_reducible refine gate_dst (N := 26) rfl ?_); refine Kd.R_lit Kd.string _ 9 ?hg (N := 26) ?hd (xs := ([(⟨#[]⟩ : ByteArray)] : List ByteArray)) (inner := [.string (⟨#[]⟩ : ByteArray)]) (ok := fun _ => True) (okp := fun _ => True) ?hr ?hp (fun _ hk => hk) trivial (Below.refl _ _) (Nat.le_refl _) (by simp) ?_; (case hd => rfl); (case hg => rfl); (case hr => exact ZqT); (case hp => exact (Reps.one (show Kd.M Kd.string _ _ _ (⟨#[]⟩ : ByteArray) [.string (⟨#[]⟩ : ByteArray)] from rfl) (Reps.none _ _))); intro v878 w11 ho12 hb hg_ hnew_; clear hg_ hnew_; (first | rw [← Ny877.out] at ho12 | (simp only [Int.reduceToNat] at ho12; rw [← Ny877.out] at ho12)); have n0_ := Aside0.mk (Kd.R_lower ho12 (below_size ZB)); have n1_ := Aside0.mk (below_step ZB hb); clear HB; have HO879 := n0_; have HB := n1_; clear n0_ n1_; clear hb ho12))
     go_ret
     exact ⟨_, ZqR, by refine ZQ ?_; exact HO879.out, ZB⟩
    ·rw [if_neg c10] at H
     have c10b0 : (a0 == 0) = false := beq_eq_false_iff_ne.mpr c10
     have c10b1 : (a0 != 0) = true := bne_iff_ne.mpr c10
     obtain ⟨y880, hy880⟩ : ∃ y_ : List Int, y_ = (([wrap64 (a1 - 1), a1, wrap64 (a1 + 1)] : List Int)) := ⟨_, rfl⟩
     replace H : (impl_pathsOf.l0 kj4 a0 a2 a3 ([] : List ByteArray) y880 (y880.length : Int) 0) = some r := by have hq_ := hy880; exact ZqH
     have Ny880 := Aside0.mk hy880
     clear hy880
     have H' := Aside0.mk H
     clear H
     go_wp2_with (first | ((with_reducible refine gate_dst (N := 32) rfl ?_); refine Kd.R_lit (Kd.int .i64) _ 2 ?hg (N := 32) ?hd (xs := ([wrap64 (a1 - 1), a1, wrap64 (a1 + 1)] : List Int)) (inner := [.int .i64 (wrap64 (a1 - 1)), .int .i64 a1, .int .i64 (wrap64 (a1 + 1))]) (ok := fun _ => True) (okp := fun _ => True) ?hr ?hp (fun _ hk => hk) trivial (Below.refl _ _) (Nat.le_refl _) (by simp) ?_; (case hd => rfl); (case hg => rfl); (case hr => exact ZqT); (case hp => exact (Reps.one (show Kd.M (Kd.int .i64) _ _ _ (wrap64 (a1 - 1)) [.int .i64 (wrap64 (a1 - 1))] from rfl) (Reps.one (show Kd.M (Kd.int .i64) _ _ _ a1 [.int .i64 a1] from rfl) (Reps.one (show Kd.M (Kd.int .i64) _ _ _ (wrap64 (a1 + 1)) [.int .i64 (wrap64 (a1 + 1))] from rfl) (Reps.none _ _))))); intro v881 w13 ho14 hb hg_ hnew_; clear hg_ hnew_; (first | rw [← Ny880.out] at ho14 | (simp only [Int.reduceToNat] at ho14; rw [← Ny880.out] at ho14)); have n0_ := Aside0.mk (Kd.R_lower ho14 (below_size ZB)); have n1_ := Aside0.mk (below_step ZB hb); clear HB; have HO882 := n0_; have HB := n1_; clear n0_ n1_; clear hb ho14; obtain ⟨Ao15, co15, eo15⟩ := Kd.R_slice HO882.out; subst eo15))
     go_loopg [9, 34] kj4 (fun kq v9 v34 w' => ∃ (x9_2 : List ByteArray) (x34_2 : Int), v34 = .int .i64 x34_2 ∧ Aside0 (impl_pathsOf.l0 kq a0 a2 a3 x9_2 y880 (y880.length : Int) x34_2 = some r) ∧ Aside0 (kq ≤ kj4) ∧ Aside0 (Kd.R Kd.string 9 w' w.heap.size (fun _ => True) v9 x9_2) ∧ Aside0 (Kd.R (Kd.int .i64) 2 w' w.heap.size (fun _ => True) (.slice Ao15 y880.length co15) y880) ∧ Aside0 (Below w.heap.size w w'))
     case atStart => exact ⟨(([] : List ByteArray)), (0), (ZqS), H', ⟨Nat.le_refl _⟩, ⟨by first | exact Kd.R_nil _ _ _ _ _ | exact Kd.N_nil _ _ _ _ _ | exact Kd.V_nil _ _ _ _ _ | exact Kd.Q_nil _ _ _ _ _ | exact Kd.S_nil _ _ _ _ _⟩, ⟨ZR HO882⟩, ⟨ZB⟩⟩
     case round =>
      clear H'
      try clear c1
      try clear p2
      try clear c6
      try clear c6b0
      try clear p6
      try clear c9
      try clear c10
      try clear c10b0
      try clear c10b1
      try clear c13
      try clear p2
      obtain ⟨x9_2, x34_2, rfl, HA, HK2, HO_9, HO_32, HB⟩ := hrel
      cases gk with
      | zero => exact absurd HA.out (by simp [impl_pathsOf.l0])
      | succ k2 =>
       have H := HA.out
       clear HA
       simp only [impl_pathsOf.l0] at H
       by_cases c16 : x34_2 < (y880.length : Int)
       ·rw [if_pos c16] at H
        have c16b0 : decide (x34_2 < (y880.length : Int)) = true := decide_eq_true c16
        clear c16
        by_cases c17 : 0 ≤ x34_2
        ·rw [if_pos c17] at H
         have c17b0 : decide (0 ≤ x34_2) = true := decide_eq_true c17
         clear c17
         by_cases c18 : x34_2 < (y880.length : Int)
         ·rw [if_pos c18] at H
          have c18b0 : decide (x34_2 < (y880.length : Int)) = true := decide_eq_true c18
          clear c18
          replace H := Option.bind_eq_some_iff.mp H
          obtain ⟨t884, A190, H⟩ := H
          try dsimp only at H
          have A19 := Aside0.mk A190
          clear A190
          have H' := Aside0.mk H
          clear H
          have p883 : 0 ≤ (x34_2 : Int) := of_decide_eq_true (by first | (with_reducible assumption) | assumption)
          have q883 : x34_2 < (y880.length : Int) := of_decide_eq_true (by first | (with_reducible assumption) | assumption)
          obtain ⟨ad883, e883, hx883_0⟩ := Kd.at_int (Kd.R_reads' HO_32.out).2.2 x34_2 p883 q883
          cases e883
          replace p883 := eq_true p883
          replace q883 := eq_true q883
          go_wp2_with (first | ((with_reducible refine gate_callee (f := 139) rfl ?_); refine goesL_ (some 44) rfl rfl Try.func139 (by kernel_rfl) rfl #[.int .i64 (wrap64 (a0 - 1)), .int .i64 (rd y880 x34_2), .int .i64 a2, .int .i64 a3] rfl ZA ?_; (with_reducible refine (ih k2 (by have := HJ4.out; have := HK2.out; omega) (wrap64 (a0 - 1)) (rd y880 x34_2) a2 a3 t884 _ A19.out).mono ?_); rintro e w20 ⟨v885, rfl, ho0, hb⟩; refine ⟨_, rfl, ?_⟩; have n0_ := Aside0.mk (Kd.R_elder' (ZR HO_9) (Kd.R_base ho0) hb); have n1_ := Aside0.mk (Kd.R_below (ZR HO_32) hb); have n2_ := Aside0.mk (Kd.R_lower (Kd.R_new' ho0 (Kd.R_lt (ZR HO_9))) (below_size ZB)); have n3_ := Aside0.mk (below_step ZB hb); clear HO_9 HO_32 HB; have HO_9 := n0_; have HO_32 := n1_; have HO886 := n2_; have HB := n3_; clear n0_ n1_ n2_ n3_; (try clear hb); (try clear ho0); obtain ⟨Ao21, co21, eo21⟩ := Kd.R_slice HO886.out; subst eo21))
          go_loopg [9, 46] k2 (fun kq v9 v46 w' => ∃ (x9_3 : List ByteArray) (x46_3 : Int), v46 = .int .i64 x46_3 ∧ Aside0 (impl_pathsOf.l1 kq a0 a2 a3 x9_3 x34_2 y880 (y880.length : Int) x34_2 t884 (t884.length : Int) x46_3 = some r) ∧ Aside0 (kq ≤ k2) ∧ Aside0 (Kd.R Kd.string 9 w' w.heap.size (fun k_ => some k_ ≠ ((.slice Ao21 t884.length co21) : Value).ownBlock) v9 x9_3) ∧ Aside0 (Kd.R (Kd.int .i64) 2 w' w.heap.size (fun _ => True) (.slice (some ad883) y880.length co15) y880) ∧ Aside0 (Kd.R Kd.string 9 w' w.heap.size (fun k_ => some k_ ≠ (v9 : Value).ownBlock) (.slice Ao21 t884.length co21) t884) ∧ Aside0 (Below w.heap.size w w'))
          case atStart => exact ⟨(x9_2), (0), (ZqS), H', ⟨Nat.le_refl _⟩, ⟨by refine ZQ ?_; exact Kd.R_mono HO_9.out (fun _ hk => hk.2)⟩, ⟨ZR HO_32⟩, ⟨by refine ZQ ?_; exact Kd.R_mono HO886.out (fun _ hk => hk.2)⟩, ⟨ZB⟩⟩
          case round =>
           clear H'
           try clear c1
           try clear p2
           try clear c6
           try clear c6b0
           try clear p6
           try clear p8
           try clear q8
           try clear hx8
           try clear c9
           try clear c10
           try clear c10b0
           try clear c10b1
           try clear c13
           try clear c16
           try clear c16b0
           try clear c17
           try clear c17b0
           try clear c18
           try clear c18b0
           try clear hx883_0
           try clear p2
           try clear p6
           try clear p883
           try clear q883
           obtain ⟨x9_3, x46_3, rfl, HA, HK3, HO_9, HO_32, HO_44, HB⟩ := hrel
           cases gk with
           | zero => exact absurd HA.out (by simp [impl_pathsOf.l1])
           | succ k3 =>
            have H := HA.out
            clear HA
            simp only [impl_pathsOf.l1] at H
            by_cases c22 : x46_3 < (t884.length : Int)
            ·rw [if_pos c22] at H
             have c22b0 : decide (x46_3 < (t884.length : Int)) = true := decide_eq_true c22
             clear c22
             by_cases c23 : 0 ≤ x46_3
             ·rw [if_pos c23] at H
              have c23b0 : decide (0 ≤ x46_3) = true := decide_eq_true c23
              clear c23
              by_cases c24 : x46_3 < (t884.length : Int)
              ·rw [if_pos c24] at H
               have c24b0 : decide (x46_3 < (t884.length : Int)) = true := decide_eq_true c24
               clear c24
               by_cases c25 : 0 ≤ x34_2
               ·rw [if_pos c25] at H
                have c25b0 := eq_true c25
                have c25b1 : decide (0 ≤ x34_2) = true := decide_eq_true c25
                clear c25
                by_cases c26 : x34_2 ≤ (wrap64 (x34_2 + 1))
                ·rw [if_pos c26] at H
                 have c26b0 := eq_true c26
                 have c26b1 : decide (x34_2 ≤ (wrap64 (x34_2 + 1))) = true := decide_eq_true c26
                 by_cases c27 : (wrap64 (x34_2 + 1)) ≤ 3
                 ·rw [if_pos c27] at H
                  have c27b0 := eq_true c27
                  have c27b1 : decide ((wrap64 (x34_2 + 1)) ≤ 3) = true := decide_eq_true c27
                  by_cases c28 : ((⟨#[68, 76, 85]⟩ : ByteArray).extract (x34_2 : Int).toNat ((wrap64 (x34_2 + 1)) : Int).toNat).size + (rdOf ByteArray.empty t884 x46_3).size ≤ 9223372036854775807
                  ·rw [if_pos c28] at H
                   have c28b0 := eq_true c28
                   have c28b1 : decide (((⟨#[68, 76, 85]⟩ : ByteArray).extract (x34_2 : Int).toNat ((wrap64 (x34_2 + 1)) : Int).toNat).size + (rdOf ByteArray.empty t884 x46_3).size ≤ 9223372036854775807) = true := decide_eq_true c28
                   try have c28b2 : (9223372036854775807 < ((⟨#[68, 76, 85]⟩ : ByteArray).extract (x34_2 : Int).toNat ((wrap64 (x34_2 + 1)) : Int).toNat).size + (rdOf ByteArray.empty t884 x46_3).size) = False := eq_false (Nat.not_lt.2 c28)
                   by_cases c29 : x9_3.length < 8796093022208
                   ·rw [if_pos c29] at H
                    have LMc29 := Aside0.mk c29
                    clear c29
                    obtain ⟨y888, hy888⟩ : ∃ y_ : List ByteArray, y_ = (x9_3 ++ [((⟨#[68, 76, 85]⟩ : ByteArray).extract (x34_2 : Int).toNat ((wrap64 (x34_2 + 1)) : Int).toNat) ++ (rdOf ByteArray.empty t884 x46_3)]) := ⟨_, rfl⟩
                    replace H : (impl_pathsOf.l1 k3 a0 a2 a3 y888 x34_2 y880 (y880.length : Int) x34_2 t884 (t884.length : Int) (wrap64 (x46_3 + 1))) = some r := by have hq_ := hy888; exact ZqH
                    have Ny888 := Aside0.mk hy888
                    clear hy888
                    have H' := Aside0.mk H
                    clear H
                    have p887 : 0 ≤ (x46_3 : Int) := of_decide_eq_true (by first | (with_reducible assumption) | assumption)
                    have q887 : x46_3 < (t884.length : Int) := of_decide_eq_true (by first | (with_reducible assumption) | assumption)
                    obtain ⟨ad887, e887, hx887_0⟩ := Kd.at_string (Kd.R_reads' HO_44.out).2.2 x46_3 p887 q887
                    cases e887
                    replace p887 := eq_true p887
                    replace q887 := eq_true q887
                    go_wp2_with (first | ((with_reducible refine gate_builtin (b := .append) (xs := #[.tmp 50, .tmp 57]) rfl ?_); at_builtin; refine Kd.R_append Kd.string (w0 := w) w.heap.size rfl (.tmp 50) (.tmp 57) 45 9 (.string ⟨#[]⟩) 16 rfl Try.underlying45 info9 rfl (by decide) (by omega) u9 x9_3 (((⟨#[68, 76, 85]⟩ : ByteArray).extract (x34_2 : Int).toNat ((wrap64 (x34_2 + 1)) : Int).toNat) ++ (rdOf ByteArray.empty t884 x46_3)) [.string (((⟨#[68, 76, 85]⟩ : ByteArray).extract (x34_2 : Int).toNat ((wrap64 (x34_2 + 1)) : Int).toNat) ++ (rdOf ByteArray.empty t884 x46_3))] (fun k_ => some k_ ≠ (.slice (some ad887) t884.length co21 : Value).ownBlock) (fun _ => False) rfl rfl ?aP (fun _ hk => hk.elim) ?aF ?aO ?aB ?aS ?aL ?_; (case aP => exact rfl); (case aB => exact ZB); (case aF => exact (fun k_ hk => Kd.fresh' (Kd.R_lt (ZR HO_44)) k_ hk)); (case aO => exact (ZR HO_9)); (case aS => exact (below_size ZB)); (case aL => have := LMc29.out; omega); intro v889 w30 ho hb hg hat; rw [← Ny888.out] at ho; have n0_ := Aside0.mk (Kd.R_over' (ZR HO_32) (Kd.R_typed (ZR HO_9)) (by decide) hg); have n1_ := Aside0.mk (Kd.R_after (ok := (fun _ => True)) (by refine ZQ ?_; exact Kd.R_mono HO_44.out (fun _ hk => (And.intro (trivial) (hk)))) hg hat); have n2_ := Aside0.mk (hb); have n3_ := Aside0.mk (ho); clear HO_32 HO_44 HB HO_9; have HO_32 := n0_; have HO_44 := n1_; have HB := n2_; have HO890 := n3_; clear n0_ n1_ n2_ n3_; clear ho hb hg hat))
                    go_roundg k3
                    case measure => have := HJ4.out; have := HK2.out; have := HK3.out; omega
                    case rel => exact ⟨(y888), (wrap64 (x46_3 + 1)), (ZqS), H', ⟨by have := HJ4.out; have := HK2.out; have := HK3.out; omega⟩, ⟨ZR HO890⟩, ⟨ZR HO_32⟩, ⟨by refine ZQ ?_; exact Kd.R_mono HO_44.out (fun _ hk => hk.2)⟩, ⟨ZB⟩⟩
                   ·rw [if_neg c29] at H
                    exact absurd H (by simp)
                  ·rw [if_neg c28] at H
                   exact absurd H (by simp)
                 ·rw [if_neg c27] at H
                  exact absurd H (by simp)
                ·rw [if_neg c26] at H
                 exact absurd H (by simp)
               ·rw [if_neg c25] at H
                exact absurd H (by simp)
              ·rw [if_neg c24] at H
               exact absurd H (by simp)
             ·rw [if_neg c23] at H
              exact absurd H (by simp)
            ·rw [if_neg c22] at H
             have c22b0 : decide (x46_3 < (t884.length : Int)) = false := decide_eq_false c22
             clear c22
             have H' := Aside0.mk H
             clear H
             go_wp2
             go_roundg k3
             case measure => have := HJ4.out; have := HK2.out; have := HK3.out; omega
             case rel => exact ⟨(x9_3), (wrap64 (x34_2 + 1)), (ZqS), H', ⟨by have := HJ4.out; have := HK2.out; have := HK3.out; omega⟩, ⟨by refine ZQ ?_; exact Kd.R_mono HO_9.out (fun _ hk => trivial)⟩, ⟨ZR HO_32⟩, ⟨ZB⟩⟩
         ·rw [if_neg c18] at H
          exact absurd H (by simp)
        ·rw [if_neg c17] at H
         exact absurd H (by simp)
       ·rw [if_neg c16] at H
        have c16b0 : decide (x34_2 < (y880.length : Int)) = false := decide_eq_false c16
        clear c16
        obtain rfl := Option.some.inj H
        go_wp2
        go_ret
        exact ⟨_, ZqR, by refine ZQ ?_; exact HO_9.out, ZB⟩

/-! ### impl_PathsOf: function 26 -/
def impl_PathsOf.f (k : Nat) (a0 : Int) (a1 : Int) (a2 : Int) (a3 : Int) : Option (List ByteArray × Int) := (impl_areCounted.f (([a0, a1, a2, a3] : List Int))).bind fun t894 => (if t894 = true then ((impl_countPaths.f k a0 a1 a2 a3 true).bind fun t895 => (if t895 > 400 then (some (([] : List ByteArray), 3)) else ((impl_pathsOf.f k a0 a1 a2 a3).bind fun t896 => (some (t896, 0))))) else (some (([] : List ByteArray), 2)))
theorem impl_PathsOf.mono : ∀ a0 a1 a2 a3 k, LeO (impl_PathsOf.f k a0 a1 a2 a3) (impl_PathsOf.f (k + 1) a0 a1 a2 a3) := by
 intro a0 a1 a2 a3 k
 unfold impl_PathsOf.f
 repeat' first
   | (with_reducible exact impl_countPaths.mono _ _ _ _ _ _)
   | (with_reducible exact impl_pathsOf.mono _ _ _ _ _)
   | (with_reducible exact LeO.refl _)
   | (with_reducible exact LeO.none _)
   | (with_reducible refine LeO.ite ?_ ?_)
   | (with_reducible refine LeO.bind ?_ (fun _ => ?_))
   | exact impl_countPaths.mono _ _ _ _ _ _
   | exact impl_pathsOf.mono _ _ _ _ _
   | exact LeO.none _
   | refine LeO.ite ?_ ?_
   | refine LeO.bind ?_ (fun _ => ?_)
set_option maxHeartbeats 8000000 in
set_option maxRecDepth 100000 in
theorem impl_PathsOf.calls (k : Nat) (a0 : Int) (a1 : Int) (a2 : Int) (a3 : Int) (r1 : List ByteArray) (r2 : Int) (w : World) (h : impl_PathsOf.f k a0 a1 a2 a3 = some (r1, r2)) :
  Calls Try.prog 26 #[.int .i64 a0, .int .i64 a1, .int .i64 a2, .int .i64 a3] w fun e w' => ∃ v0_ : Value, e = .returned (.tuple #[v0_, .int .i64 r2]) ∧ Kd.R Kd.string 9 w' w.heap.size (fun _ => True) v0_ r1 ∧ Below w.heap.size w w' := by
 have HB := Aside0.mk (Below.refl w.heap.size w)
 have H : ((impl_areCounted.f (([a0, a1, a2, a3] : List Int))).bind fun t894 => (if t894 = true then ((impl_countPaths.f k a0 a1 a2 a3 true).bind fun t895 => (if t895 > 400 then (some (([] : List ByteArray), 3)) else ((impl_pathsOf.f k a0 a1 a2 a3).bind fun t896 => (some (t896, 0))))) else (some (([] : List ByteArray), 2)))) = some (r1, r2) := h
 clear h
 obtain ⟨y891, hy891⟩ : ∃ y_ : List Int, y_ = (([a0, a1, a2, a3] : List Int)) := ⟨_, rfl⟩
 replace H : ((impl_areCounted.f y891).bind fun t894 => (if t894 = true then ((impl_countPaths.f k a0 a1 a2 a3 true).bind fun t895 => (if t895 > 400 then (some (([] : List ByteArray), 3)) else ((impl_pathsOf.f k a0 a1 a2 a3).bind fun t896 => (some (t896, 0))))) else (some (([] : List ByteArray), 2)))) = some (r1, r2) := by have hq_ := hy891; exact ZqH
 have Ny891 := Aside0.mk hy891
 clear hy891
 replace H := Option.bind_eq_some_iff.mp H
 obtain ⟨t894, A50, H⟩ := H
 try dsimp only at H
 have A5 := Aside0.mk A50
 clear A50
 by_cases c6 : t894 = true
 ·subst c6
  rw [if_pos rfl] at H
  replace H := Option.bind_eq_some_iff.mp H
  obtain ⟨t895, A70, H⟩ := H
  try dsimp only at H
  have A7 := Aside0.mk A70
  clear A70
  by_cases c8 : t895 > 400
  ·rw [if_pos c8] at H
   have c8b0 : decide (400 < t895) = true := decide_eq_true c8
   clear c8
   simp only [Option.some.injEq, Prod.mk.injEq] at H
   obtain ⟨rfl, rfl⟩ := H
   go_enter Try.func26, Try.ntmps26
   go_wp2_with (first | ((with_reducible refine gate_dst (N := 15) rfl ?_); refine Kd.R_lit (Kd.int .i64) _ 2 ?hg (N := 15) ?hd (xs := ([a0, a1, a2, a3] : List Int)) (inner := [.int .i64 a0, .int .i64 a1, .int .i64 a2, .int .i64 a3]) (ok := fun _ => True) (okp := fun _ => True) ?hr ?hp (fun _ hk => hk) trivial (Below.refl _ _) (Nat.le_refl _) (by simp) ?_; (case hd => rfl); (case hg => rfl); (case hr => exact ZqT); (case hp => exact (Reps.one (show Kd.M (Kd.int .i64) _ _ _ a0 [.int .i64 a0] from rfl) (Reps.one (show Kd.M (Kd.int .i64) _ _ _ a1 [.int .i64 a1] from rfl) (Reps.one (show Kd.M (Kd.int .i64) _ _ _ a2 [.int .i64 a2] from rfl) (Reps.one (show Kd.M (Kd.int .i64) _ _ _ a3 [.int .i64 a3] from rfl) (Reps.none _ _)))))); intro v892 w9 ho10 hb hg_ hnew_; clear hg_ hnew_; (first | rw [← Ny891.out] at ho10 | (simp only [Int.reduceToNat] at ho10; rw [← Ny891.out] at ho10)); have n0_ := Aside0.mk (Kd.R_lower ho10 (below_size ZB)); have n1_ := Aside0.mk (below_step ZB hb); clear HB; have HO893 := n0_; have HB := n1_; clear n0_ n1_; clear hb ho10; obtain ⟨Ao11, co11, eo11⟩ := Kd.R_slice HO893.out; subst eo11) | ((with_reducible refine gate_callee (f := 137) rfl ?_); refine goesL_ (some 16) rfl rfl Try.func137 (by kernel_rfl) rfl #[.slice Ao11 y891.length co11] rfl ZA ?_; (with_reducible refine (impl_areCounted.calls _ _ y891 true _ ?side1 ?side2 A5.out).mono ?_); (case side1 => exact ZqC ((Kd.R_reads' HO893.out).2.2)); (case side2 => exact (Kd.R_reads' HO893.out).2.1); rintro e w12 ⟨rfl, hb⟩; refine ⟨_, rfl, ?_⟩; have n0_ := Aside0.mk (Kd.R_below (ZR HO893) hb); have n1_ := Aside0.mk (below_step ZB hb); clear HO893 HB; have HO893 := n0_; have HB := n1_; clear n0_ n1_; (try clear hb)) | ((with_reducible refine gate_callee (f := 138) rfl ?_); refine goesL_ (some 23) rfl rfl Try.func138 (by kernel_rfl) rfl #[.int .i64 a0, .int .i64 a1, .int .i64 a2, .int .i64 a3, .bool true] rfl ZA ?_; (with_reducible refine (impl_countPaths.calls k a0 a1 a2 a3 true t895 _ A7.out).mono ?_); rintro e w13 ⟨rfl, hb⟩; refine ⟨_, rfl, ?_⟩; have n0_ := Aside0.mk (Kd.R_below (ZR HO893) hb); have n1_ := Aside0.mk (below_step ZB hb); clear HO893 HB; have HO893 := n0_; have HB := n1_; clear n0_ n1_; (try clear hb)))
   go_ret2
   exact ⟨_, ZqR, by first | exact Kd.R_nil _ _ _ _ _ | exact Kd.N_nil _ _ _ _ _ | exact Kd.V_nil _ _ _ _ _ | exact Kd.Q_nil _ _ _ _ _ | exact Kd.S_nil _ _ _ _ _, ZB⟩
  ·rw [if_neg c8] at H
   have c8b0 : decide (400 < t895) = false := decide_eq_false c8
   clear c8
   replace H := Option.bind_eq_some_iff.mp H
   obtain ⟨t896, A140, H⟩ := H
   try dsimp only at H
   have A14 := Aside0.mk A140
   clear A140
   simp only [Option.some.injEq, Prod.mk.injEq] at H
   obtain ⟨rfl, rfl⟩ := H
   go_enter Try.func26, Try.ntmps26
   go_wp2_with (first | ((with_reducible refine gate_dst (N := 15) rfl ?_); refine Kd.R_lit (Kd.int .i64) _ 2 ?hg (N := 15) ?hd (xs := ([a0, a1, a2, a3] : List Int)) (inner := [.int .i64 a0, .int .i64 a1, .int .i64 a2, .int .i64 a3]) (ok := fun _ => True) (okp := fun _ => True) ?hr ?hp (fun _ hk => hk) trivial (Below.refl _ _) (Nat.le_refl _) (by simp) ?_; (case hd => rfl); (case hg => rfl); (case hr => exact ZqT); (case hp => exact (Reps.one (show Kd.M (Kd.int .i64) _ _ _ a0 [.int .i64 a0] from rfl) (Reps.one (show Kd.M (Kd.int .i64) _ _ _ a1 [.int .i64 a1] from rfl) (Reps.one (show Kd.M (Kd.int .i64) _ _ _ a2 [.int .i64 a2] from rfl) (Reps.one (show Kd.M (Kd.int .i64) _ _ _ a3 [.int .i64 a3] from rfl) (Reps.none _ _)))))); intro v892 w15 ho16 hb hg_ hnew_; clear hg_ hnew_; (first | rw [← Ny891.out] at ho16 | (simp only [Int.reduceToNat] at ho16; rw [← Ny891.out] at ho16)); have n0_ := Aside0.mk (Kd.R_lower ho16 (below_size ZB)); have n1_ := Aside0.mk (below_step ZB hb); clear HB; have HO893 := n0_; have HB := n1_; clear n0_ n1_; clear hb ho16; obtain ⟨Ao17, co17, eo17⟩ := Kd.R_slice HO893.out; subst eo17) | ((with_reducible refine gate_callee (f := 137) rfl ?_); refine goesL_ (some 16) rfl rfl Try.func137 (by kernel_rfl) rfl #[.slice Ao17 y891.length co17] rfl ZA ?_; (with_reducible refine (impl_areCounted.calls _ _ y891 true _ ?side1 ?side2 A5.out).mono ?_); (case side1 => exact ZqC ((Kd.R_reads' HO893.out).2.2)); (case side2 => exact (Kd.R_reads' HO893.out).2.1); rintro e w18 ⟨rfl, hb⟩; refine ⟨_, rfl, ?_⟩; have n0_ := Aside0.mk (Kd.R_below (ZR HO893) hb); have n1_ := Aside0.mk (below_step ZB hb); clear HO893 HB; have HO893 := n0_; have HB := n1_; clear n0_ n1_; (try clear hb)) | ((with_reducible refine gate_callee (f := 138) rfl ?_); refine goesL_ (some 23) rfl rfl Try.func138 (by kernel_rfl) rfl #[.int .i64 a0, .int .i64 a1, .int .i64 a2, .int .i64 a3, .bool true] rfl ZA ?_; (with_reducible refine (impl_countPaths.calls k a0 a1 a2 a3 true t895 _ A7.out).mono ?_); rintro e w19 ⟨rfl, hb⟩; refine ⟨_, rfl, ?_⟩; have n0_ := Aside0.mk (Kd.R_below (ZR HO893) hb); have n1_ := Aside0.mk (below_step ZB hb); clear HO893 HB; have HO893 := n0_; have HB := n1_; clear n0_ n1_; (try clear hb)) | ((with_reducible refine gate_callee (f := 139) rfl ?_); refine goesL_ (some 29) rfl rfl Try.func139 (by kernel_rfl) rfl #[.int .i64 a0, .int .i64 a1, .int .i64 a2, .int .i64 a3] rfl ZA ?_; (with_reducible refine (impl_pathsOf.calls k a0 a1 a2 a3 t896 _ A14.out).mono ?_); rintro e w20 ⟨v897, rfl, ho0, hb⟩; refine ⟨_, rfl, ?_⟩; have n0_ := Aside0.mk (Kd.R_below (ZR HO893) hb); have n1_ := Aside0.mk (Kd.R_lower ho0 (below_size ZB)); have n2_ := Aside0.mk (below_step ZB hb); clear HO893 HB; have HO893 := n0_; have HO898 := n1_; have HB := n2_; clear n0_ n1_ n2_; (try clear hb); (try clear ho0)))
   go_ret2
   exact ⟨_, ZqR, by refine ZQ ?_; exact HO898.out, ZB⟩
 ·replace c6 := Bool.eq_false_iff.mpr c6
  subst c6
  rw [if_neg (show ¬ (false = true) by decide)] at H
  simp only [Option.some.injEq, Prod.mk.injEq] at H
  obtain ⟨rfl, rfl⟩ := H
  go_enter Try.func26, Try.ntmps26
  go_wp2_with (first | ((with_reducible refine gate_dst (N := 15) rfl ?_); refine Kd.R_lit (Kd.int .i64) _ 2 ?hg (N := 15) ?hd (xs := ([a0, a1, a2, a3] : List Int)) (inner := [.int .i64 a0, .int .i64 a1, .int .i64 a2, .int .i64 a3]) (ok := fun _ => True) (okp := fun _ => True) ?hr ?hp (fun _ hk => hk) trivial (Below.refl _ _) (Nat.le_refl _) (by simp) ?_; (case hd => rfl); (case hg => rfl); (case hr => exact ZqT); (case hp => exact (Reps.one (show Kd.M (Kd.int .i64) _ _ _ a0 [.int .i64 a0] from rfl) (Reps.one (show Kd.M (Kd.int .i64) _ _ _ a1 [.int .i64 a1] from rfl) (Reps.one (show Kd.M (Kd.int .i64) _ _ _ a2 [.int .i64 a2] from rfl) (Reps.one (show Kd.M (Kd.int .i64) _ _ _ a3 [.int .i64 a3] from rfl) (Reps.none _ _)))))); intro v892 w21 ho22 hb hg_ hnew_; clear hg_ hnew_; (first | rw [← Ny891.out] at ho22 | (simp only [Int.reduceToNat] at ho22; rw [← Ny891.out] at ho22)); have n0_ := Aside0.mk (Kd.R_lower ho22 (below_size ZB)); have n1_ := Aside0.mk (below_step ZB hb); clear HB; have HO893 := n0_; have HB := n1_; clear n0_ n1_; clear hb ho22; obtain ⟨Ao23, co23, eo23⟩ := Kd.R_slice HO893.out; subst eo23) | ((with_reducible refine gate_callee (f := 137) rfl ?_); refine goesL_ (some 16) rfl rfl Try.func137 (by kernel_rfl) rfl #[.slice Ao23 y891.length co23] rfl ZA ?_; (with_reducible refine (impl_areCounted.calls _ _ y891 false _ ?side1 ?side2 A5.out).mono ?_); (case side1 => exact ZqC ((Kd.R_reads' HO893.out).2.2)); (case side2 => exact (Kd.R_reads' HO893.out).2.1); rintro e w24 ⟨rfl, hb⟩; refine ⟨_, rfl, ?_⟩; have n0_ := Aside0.mk (Kd.R_below (ZR HO893) hb); have n1_ := Aside0.mk (below_step ZB hb); clear HO893 HB; have HO893 := n0_; have HB := n1_; clear n0_ n1_; (try clear hb)))
  go_ret2
  exact ⟨_, ZqR, by first | exact Kd.R_nil _ _ _ _ _ | exact Kd.N_nil _ _ _ _ _ | exact Kd.V_nil _ _ _ _ _ | exact Kd.Q_nil _ _ _ _ _ | exact Kd.S_nil _ _ _ _ _, ZB⟩

/-! ### spec_l09Given: function 140 -/
def spec_l09Given.f (a0 : Int) (a1 : Int) (a2 : Int) (a3 : Int) : Option (Bool) := (spec_l01In.f a0 0 24).bind fun t899 => (if t899 = true then ((spec_l01In.f a1 0 24).bind fun t900 => (if t900 = true then ((spec_l01In.f a2 0 24).bind fun t901 => (if t901 = true then ((spec_l01In.f a3 0 24).bind fun t902 => (some t902)) else (some false))) else (some false))) else (some false))
set_option maxHeartbeats 8000000 in
set_option maxRecDepth 100000 in
theorem spec_l09Given.calls (a0 : Int) (a1 : Int) (a2 : Int) (a3 : Int) (r : Bool) (w : World) (h : spec_l09Given.f a0 a1 a2 a3 = some r) :
  Calls Try.prog 140 #[.int .i64 a0, .int .i64 a1, .int .i64 a2, .int .i64 a3] w fun e w' => e = .returned (.bool r) ∧ Drawn0 w w' := by
 have H : ((spec_l01In.f a0 0 24).bind fun t899 => (if t899 = true then ((spec_l01In.f a1 0 24).bind fun t900 => (if t900 = true then ((spec_l01In.f a2 0 24).bind fun t901 => (if t901 = true then ((spec_l01In.f a3 0 24).bind fun t902 => (some t902)) else (some false))) else (some false))) else (some false))) = some r := h
 clear h
 replace H := Option.bind_eq_some_iff.mp H
 obtain ⟨t899, A50, H⟩ := H
 try dsimp only at H
 have A5 := Aside0.mk A50
 clear A50
 by_cases c6 : t899 = true
 ·subst c6
  rw [if_pos rfl] at H
  replace H := Option.bind_eq_some_iff.mp H
  obtain ⟨t900, A70, H⟩ := H
  try dsimp only at H
  have A7 := Aside0.mk A70
  clear A70
  by_cases c8 : t900 = true
  ·subst c8
   rw [if_pos rfl] at H
   replace H := Option.bind_eq_some_iff.mp H
   obtain ⟨t901, A90, H⟩ := H
   try dsimp only at H
   have A9 := Aside0.mk A90
   clear A90
   by_cases c10 : t901 = true
   ·subst c10
    rw [if_pos rfl] at H
    replace H := Option.bind_eq_some_iff.mp H
    obtain ⟨t902, A110, H⟩ := H
    try dsimp only at H
    have A11 := Aside0.mk A110
    clear A110
    obtain rfl := Option.some.inj H
    go_enter Try.func140, Try.ntmps140
    go_wp2_with (first | ((with_reducible refine gate_callee (f := 126) rfl ?_); refine goesL_ (some 10) rfl rfl Try.func126 (by kernel_rfl) rfl #[.int .i64 a0, .int .i64 0, .int .i64 24] rfl ZA ?_; (with_reducible refine (spec_l01In.calls a0 0 24 true _ A5.out).mono ?_); rintro e w' ⟨rfl, ⟨nd, rfl⟩⟩; refine ⟨_, rfl, ?_⟩) | (go_at_call 126; (with_reducible refine (spec_l01In.calls a1 0 24 true _ A7.out).mono ?_); rintro e w' ⟨rfl, ⟨nd, rfl⟩⟩) | (go_at_call 126; (with_reducible refine (spec_l01In.calls a2 0 24 true _ A9.out).mono ?_); rintro e w' ⟨rfl, ⟨nd, rfl⟩⟩) | (go_at_call 126; (with_reducible refine (spec_l01In.calls a3 0 24 t902 _ A11.out).mono ?_); rintro e w' ⟨rfl, ⟨nd, rfl⟩⟩))
    go_ret
    exact ⟨ZqS, by repeat (first | exact Drawn0.refl _ | apply Drawn0.step)⟩
   ·replace c10 := Bool.eq_false_iff.mpr c10
    subst c10
    rw [if_neg (show ¬ (false = true) by decide)] at H
    obtain rfl := Option.some.inj H
    go_enter Try.func140, Try.ntmps140
    go_wp2_with (first | ((with_reducible refine gate_callee (f := 126) rfl ?_); refine goesL_ (some 10) rfl rfl Try.func126 (by kernel_rfl) rfl #[.int .i64 a0, .int .i64 0, .int .i64 24] rfl ZA ?_; (with_reducible refine (spec_l01In.calls a0 0 24 true _ A5.out).mono ?_); rintro e w' ⟨rfl, ⟨nd, rfl⟩⟩; refine ⟨_, rfl, ?_⟩) | (go_at_call 126; (with_reducible refine (spec_l01In.calls a1 0 24 true _ A7.out).mono ?_); rintro e w' ⟨rfl, ⟨nd, rfl⟩⟩) | (go_at_call 126; (with_reducible refine (spec_l01In.calls a2 0 24 false _ A9.out).mono ?_); rintro e w' ⟨rfl, ⟨nd, rfl⟩⟩))
    go_ret
    exact ⟨ZqS, by repeat (first | exact Drawn0.refl _ | apply Drawn0.step)⟩
  ·replace c8 := Bool.eq_false_iff.mpr c8
   subst c8
   rw [if_neg (show ¬ (false = true) by decide)] at H
   obtain rfl := Option.some.inj H
   go_enter Try.func140, Try.ntmps140
   go_wp2_with (first | ((with_reducible refine gate_callee (f := 126) rfl ?_); refine goesL_ (some 10) rfl rfl Try.func126 (by kernel_rfl) rfl #[.int .i64 a0, .int .i64 0, .int .i64 24] rfl ZA ?_; (with_reducible refine (spec_l01In.calls a0 0 24 true _ A5.out).mono ?_); rintro e w' ⟨rfl, ⟨nd, rfl⟩⟩; refine ⟨_, rfl, ?_⟩) | (go_at_call 126; (with_reducible refine (spec_l01In.calls a1 0 24 false _ A7.out).mono ?_); rintro e w' ⟨rfl, ⟨nd, rfl⟩⟩))
   go_ret
   exact ⟨ZqS, by repeat (first | exact Drawn0.refl _ | apply Drawn0.step)⟩
 ·replace c6 := Bool.eq_false_iff.mpr c6
  subst c6
  rw [if_neg (show ¬ (false = true) by decide)] at H
  obtain rfl := Option.some.inj H
  go_enter Try.func140, Try.ntmps140
  go_wp2_with (first | ((with_reducible refine gate_callee (f := 126) rfl ?_); refine goesL_ (some 10) rfl rfl Try.func126 (by kernel_rfl) rfl #[.int .i64 a0, .int .i64 0, .int .i64 24] rfl ZA ?_; (with_reducible refine (spec_l01In.calls a0 0 24 false _ A5.out).mono ?_); rintro e w' ⟨rfl, ⟨nd, rfl⟩⟩; refine ⟨_, rfl, ?_⟩))
  go_ret
  exact ⟨ZqS, by repeat (first | exact Drawn0.refl _ | apply Drawn0.step)⟩

end Go.Proofs.Ytlodpobegdbhaaa.X
