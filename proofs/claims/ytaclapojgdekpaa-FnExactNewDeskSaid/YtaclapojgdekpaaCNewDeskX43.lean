/- Contracts of functions that the law reaches, printed by a program of this session; Lean checks them. -/
import Derived.Test.YtaclapojgdekpaaCNewDeskX0
import Derived.Test.YtaclapojgdekpaaCNewDeskX42
import Derived.Test.YtaclapojgdekpaaCNewDeskX5
import Derived.Test.YtaclapojgdekpaaCNewDeskXZ
namespace Go.Proofs.Ytaclapojgdekpaa.X
open Go.RowKit Go.Proofs.YtaclapojgdekpaaW.PrintWords Go.Proofs.YtaclapojgdekpaaW.PrintLast Go.Proofs.YtaclapojgdekpaaW.PrintMore
attribute [local go_sem] max2_int min2_int max_two min_two max_three min_three max_four min_four   -- for this text's walks alone
set_option linter.unusedVariables false
set_option linter.unusedSimpArgs false

/-! ### impl_NamedMoments: function 116 -/
def impl_NamedMoments.j0 : Nat → ByteArray → Int → Int → Bool → Option (Int × List Int × Int)
 | 0, _, _, _, _ => none
 | k + 1, x0, x1, x2, x17 => if x17 = true then (some (0, ([] : List Int), 2)) else ((impl_field_named.f k x1 x0 x2).bind fun bt1481 => (if bt1481.2 = true then (if x0.toList = ([117, 110, 105, 102, 111, 114, 109] : List UInt8) then (if x2 ≥ x1 then (some (0, ([] : List Int), 5)) else (some (x1, bt1481.1, 0))) else (some (x1, bt1481.1, 0))) else (some (0, ([] : List Int), 4))))
def impl_NamedMoments.f (k : Nat) (a0 : ByteArray) (a1 : Int) (a2 : Int) : Option (Int × List Int × Int) := (impl_IsPrime.f k a1).bind fun t1479 => (if t1479 = true then ((impl_within.f a2 1 24).bind fun t1480 => (impl_NamedMoments.j0 k a0 a1 a2 (!t1480))) else (impl_NamedMoments.j0 k a0 a1 a2 true))
theorem impl_NamedMoments.mono_l : ∀ k, (∀ y0 y1 y2 y3, LeO (impl_NamedMoments.j0 k y0 y1 y2 y3) (impl_NamedMoments.j0 (k + 1) y0 y1 y2 y3))
 | 0 => fun _ _ _ _ r h => by simp [impl_NamedMoments.j0] at h
 | k + 1 => by
  have ih0 := impl_NamedMoments.mono_l k
  ·intro y0 y1 y2 y3
   unfold impl_NamedMoments.j0
   repeat' first
   | (with_reducible exact ih0 _ _ _ _)
   | (with_reducible exact impl_IsPrime.mono _ _)
   | (with_reducible exact impl_field_named.mono _ _ _ _)
   | (with_reducible exact LeO.refl _)
   | (with_reducible exact LeO.none _)
   | (with_reducible refine LeO.ite ?_ ?_)
   | (with_reducible refine LeO.bind ?_ (fun _ => ?_))
   | exact ih0 _ _ _ _
   | exact impl_IsPrime.mono _ _
   | exact impl_field_named.mono _ _ _ _
   | exact LeO.none _
   | refine LeO.ite ?_ ?_
   | refine LeO.bind ?_ (fun _ => ?_)
theorem impl_NamedMoments.mono : ∀ a0 a1 a2 k, LeO (impl_NamedMoments.f k a0 a1 a2) (impl_NamedMoments.f (k + 1) a0 a1 a2) := by
 intro a0 a1 a2 k
 have ih0 := impl_NamedMoments.mono_l k
 unfold impl_NamedMoments.f
 repeat' first
   | (with_reducible exact ih0 _ _ _ _)
   | (with_reducible exact impl_IsPrime.mono _ _)
   | (with_reducible exact impl_field_named.mono _ _ _ _)
   | (with_reducible exact LeO.refl _)
   | (with_reducible exact LeO.none _)
   | (with_reducible refine LeO.ite ?_ ?_)
   | (with_reducible refine LeO.bind ?_ (fun _ => ?_))
   | exact ih0 _ _ _ _
   | exact impl_IsPrime.mono _ _
   | exact impl_field_named.mono _ _ _ _
   | exact LeO.none _
   | refine LeO.ite ?_ ?_
   | refine LeO.bind ?_ (fun _ => ?_)
set_option maxHeartbeats 8000000 in
set_option maxRecDepth 100000 in
theorem impl_NamedMoments.calls (k : Nat) (a0 : ByteArray) (a1 : Int) (a2 : Int) (r1 : Int) (r2 : List Int) (r3 : Int) (w : World) (h : impl_NamedMoments.f k a0 a1 a2 = some (r1, r2, r3)) :
  Calls Try.prog 116 #[.string a0, .int .i64 a1, .int .i64 a2] w fun e w' => ∃ v1_ : Value, e = .returned (.tuple #[.agg #[.int .i64 r1, v1_], .int .i64 r3]) ∧ Kd.R (Kd.int .i64) 2 w' w.heap.size (fun _ => True) v1_ r2 ∧ Below w.heap.size w w' := by
 have hu59 := Try.underlying59
 have HB := Aside0.mk (Below.refl w.heap.size w)
 have H : ((impl_IsPrime.f k a1).bind fun t1479 => (if t1479 = true then ((impl_within.f a2 1 24).bind fun t1480 => (impl_NamedMoments.j0 k a0 a1 a2 (!t1480))) else (impl_NamedMoments.j0 k a0 a1 a2 true))) = some (r1, r2, r3) := h
 clear h
 have HC4 := Aside0.mk H
 clear H
 go_enter Try.func116, Try.ntmps116
 go_upto_region 1 with (first | ((with_reducible refine gate_dst (N := 6) rfl ?_); refine box_event ?hg (N := 6) ?hd (cs := #[.int .i64 0, .slice none 0 0]) (t := 59) ?hr ?_; (case hd => rfl); (case hg => rfl); (case hr => first | (go_simp; done) | (go_simp; rfl)); intro gb1478 hg w5 hbox hb; have n0_ := Aside0.mk (below_step ZB hb); have n1_ := Aside0.mk (hbox); have n2_ := Aside0.mk ((ZG hg : w.heap.size ≤ gb1478)); have n3_ := Aside0.mk ((ZG hg : w.heap.size ≤ gb1478)); clear HB; have HB := n0_; have BK1478 := n1_; have GW1478 := n2_; have GE1478 := n3_; clear n0_ n1_ n2_ n3_; clear hb hbox hg))
 (try simp only [Act.put, List.setIfInBounds_toArray, List.set_cons_zero, List.set_cons_succ])
 go_cut [17] (fun v17 wc => ∃ (kq : Nat) (x17_3 : Bool), v17 = .bool x17_3 ∧ Aside0 (impl_NamedMoments.j0 kq a0 a1 a2 x17_3 = some (r1, r2, r3)) ∧ Aside0 (kq ≤ k) ∧ Aside0 (wc.heap[gb1478]? = some (.cells #[.int .i64 0, (.slice none 0 0)] 59 (0, 0))) ∧ Aside0 (Below w.heap.size w wc))
 case first =>
  have H := HC4.out
  clear HC4
  replace H := Option.bind_eq_some_iff.mp H
  obtain ⟨t1479, A60, H⟩ := H
  replace H : (if t1479 = true then ((impl_within.f a2 1 24).bind fun t1480 => (impl_NamedMoments.j0 k a0 a1 a2 (!t1480))) else (impl_NamedMoments.j0 k a0 a1 a2 true)) = some (r1, r2, r3) := H
  have A6 := Aside0.mk A60
  clear A60
  by_cases c7 : t1479 = true
  ·subst c7
   have H1 : ((impl_within.f a2 1 24).bind fun t1480 => (impl_NamedMoments.j0 k a0 a1 a2 (!t1480))) = some (r1, r2, r3) := by rw [if_pos rfl] at H; exact H
   clear H
   have H := H1
   clear H1
   replace H := Option.bind_eq_some_iff.mp H
   obtain ⟨t1480, A80, H⟩ := H
   replace H : (impl_NamedMoments.j0 k a0 a1 a2 (!t1480)) = some (r1, r2, r3) := H
   have A8 := Aside0.mk A80
   clear A80
   have H' := Aside0.mk H
   clear H
   go_wp2_with (first | ((with_reducible refine gate_callee (f := 104) rfl ?_); refine goesL_ (some 11) rfl rfl Try.func104 (by kernel_rfl) rfl #[.int .i64 a1] rfl ZA ?_; (with_reducible refine (impl_IsPrime.calls k a1 true _ A6.out).mono ?_); rintro e w' ⟨rfl, ⟨nd, rfl⟩⟩; refine ⟨_, rfl, ?_⟩) | (go_at_call 76; (with_reducible refine (impl_within.calls a2 1 24 t1480 _ A8.out).mono ?_); rintro e w' ⟨rfl, ⟨nd, rfl⟩⟩))
   go_meet
   case rel => exact ⟨_, (!t1480), (by first | rfl | (simp; done) | (simp [*]; done)), H', ⟨by first | omega | exact Nat.le_refl _⟩, ⟨ZK BK1478⟩, ⟨ZB⟩⟩
  ·replace c7 := Bool.eq_false_iff.mpr c7
   subst c7
   have H1 : (impl_NamedMoments.j0 k a0 a1 a2 true) = some (r1, r2, r3) := by rw [if_neg (show ¬ (false = true) by decide)] at H; exact H
   clear H
   have H := H1
   clear H1
   have H' := Aside0.mk H
   clear H
   go_wp2_with (first | ((with_reducible refine gate_callee (f := 104) rfl ?_); refine goesL_ (some 11) rfl rfl Try.func104 (by kernel_rfl) rfl #[.int .i64 a1] rfl ZA ?_; (with_reducible refine (impl_IsPrime.calls k a1 false _ A6.out).mono ?_); rintro e w' ⟨rfl, ⟨nd, rfl⟩⟩; refine ⟨_, rfl, ?_⟩))
   go_meet
   case rel => exact ⟨_, (true), (by first | rfl | (simp; done) | (simp [*]; done)), H', ⟨by first | omega | exact Nat.le_refl _⟩, ⟨ZK BK1478⟩, ⟨ZB⟩⟩
 case rest =>
  clear HC4
  try clear c1
  try clear p2
  try clear c7
  obtain ⟨kq, x17_3, rfl, HA, HJ3, BK1478, HB⟩ := hcut
  cases kq with
  | zero => exact absurd HA.out (by simp [impl_NamedMoments.j0])
  | succ kj3 =>
   have H := HA.out
   clear HA
   simp only [impl_NamedMoments.j0] at H
   by_cases c9 : x17_3 = true
   ·subst c9
    have H1 : (some (0, ([] : List Int), 2)) = some (r1, r2, r3) := by rw [if_pos rfl] at H; exact H
    clear H
    have H := H1
    clear H1
    simp only [Option.some.injEq, Prod.mk.injEq] at H
    obtain ⟨rfl, rfl, rfl⟩ := H
    obtain ⟨hcz10_0, hcz10_1, hfz10_0, hfz10_1⟩ := ZD2 BK1478
    go_wp2
    refine bodyPost_ret (results_ct rfl _ _ gb1478 59 #[.int .i64 0, .slice none 0 0] (0, 0) _ rfl (by refine ZS ?_; refine blk_put (cs := #[.int .i64 0, .slice none 0 0]) ?_ 1 _ rfl; refine ZS ?_; refine blk_put (cs := #[.int .i64 0, .slice none 0 0]) ?_ 0 _ rfl; refine ZS ?_; exact BK1478.out) Try.underlying59 rfl (by kernel_rfl)) rfl ?_
    exact ⟨_, by first | rfl | (simp [errW_none, errW_some] <;> rfl) | (simp [*, errW_none, errW_some] <;> rfl), by first | exact Kd.R_nil _ _ _ _ _ | exact Kd.N_nil _ _ _ _ _ | exact Kd.V_nil _ _ _ _ _ | exact Kd.Q_nil _ _ _ _ _ | exact Kd.S_nil _ _ _ _ _, ZB⟩
   ·replace c9 := Bool.eq_false_iff.mpr c9
    subst c9
    have H1 : ((impl_field_named.f kj3 a1 a0 a2).bind fun bt1481 => (if bt1481.2 = true then (if a0.toList = ([117, 110, 105, 102, 111, 114, 109] : List UInt8) then (if a2 ≥ a1 then (some (0, ([] : List Int), 5)) else (some (a1, bt1481.1, 0))) else (some (a1, bt1481.1, 0))) else (some (0, ([] : List Int), 4)))) = some (r1, r2, r3) := by rw [if_neg (show ¬ (false = true) by decide)] at H; exact H
    clear H
    have H := H1
    clear H1
    replace H := Option.bind_eq_some_iff.mp H
    obtain ⟨⟨t1481, t1482⟩, A110, H⟩ := H
    replace H : (if t1482 = true then (if a0.toList = ([117, 110, 105, 102, 111, 114, 109] : List UInt8) then (if a2 ≥ a1 then (some (0, ([] : List Int), 5)) else (some (a1, t1481, 0))) else (some (a1, t1481, 0))) else (some (0, ([] : List Int), 4))) = some (r1, r2, r3) := H
    have A11 := Aside0.mk A110
    clear A110
    by_cases c12 : t1482 = true
    ·subst c12
     have H1 : (if a0.toList = ([117, 110, 105, 102, 111, 114, 109] : List UInt8) then (if a2 ≥ a1 then (some (0, ([] : List Int), 5)) else (some (a1, t1481, 0))) else (some (a1, t1481, 0))) = some (r1, r2, r3) := by rw [if_pos rfl] at H; exact H
     clear H
     have H := H1
     clear H1
     by_cases c13 : a0.toList = ([117, 110, 105, 102, 111, 114, 109] : List UInt8)
     ·rw [if_pos c13] at H
      have c13b0 : (a0.toList == ([117, 110, 105, 102, 111, 114, 109] : List UInt8)) = true := beq_iff_eq.mpr c13
      have c13b1 : (a0.toList != ([117, 110, 105, 102, 111, 114, 109] : List UInt8)) = false := bne_eq_false_iff_eq.mpr c13
      clear c13
      by_cases c14 : a2 ≥ a1
      ·rw [if_pos c14] at H
       have c14b0 : decide (a1 ≤ a2) = true := decide_eq_true c14
       clear c14
       simp only [Option.some.injEq, Prod.mk.injEq] at H
       obtain ⟨rfl, rfl, rfl⟩ := H
       go_wp2_with (first | ((with_reducible refine gate_callee (f := 125) rfl ?_); refine goesL_ (some 23) rfl rfl Try.func125 (by kernel_rfl) rfl #[.int .i64 a1, .string a0, .int .i64 a2] rfl ZA ?_; (with_reducible refine (impl_field_named.calls kj3 a1 a0 a2 t1481 true _ A11.out).mono ?_); rintro e w15 ⟨v1483, rfl, ho0, hb⟩; refine ⟨_, rfl, ?_⟩; have n0_ := Aside0.mk (Kd.R_lower ho0 (below_size ZB)); have n1_ := ZL BK1478 hb; have n2_ := Aside0.mk (below_step ZB hb); clear BK1478; clear HB; have HO1484 := n0_; have BK1478 := n1_; have HB := n2_; clear n0_ n1_ n2_; (try clear hb); (try clear hb2); (try clear hk); (try clear hi); (try clear ho0); obtain ⟨hcz16_0, hcz16_1, hfz16_0, hfz16_1⟩ := ZD2 BK1478))
       refine bodyPost_ret (results_ct rfl _ _ gb1478 59 #[.int .i64 0, .slice none 0 0] (0, 0) _ rfl (by refine ZS ?_; refine blk_put (cs := #[.int .i64 0, .slice none 0 0]) ?_ 1 _ rfl; refine ZS ?_; refine blk_put (cs := #[.int .i64 0, .slice none 0 0]) ?_ 0 _ rfl; refine ZS ?_; exact BK1478.out) Try.underlying59 rfl (by kernel_rfl)) rfl ?_
       exact ⟨_, by first | rfl | (simp [errW_none, errW_some] <;> rfl) | (simp [*, errW_none, errW_some] <;> rfl), by first | exact Kd.R_nil _ _ _ _ _ | exact Kd.N_nil _ _ _ _ _ | exact Kd.V_nil _ _ _ _ _ | exact Kd.Q_nil _ _ _ _ _ | exact Kd.S_nil _ _ _ _ _, ZB⟩
      ·rw [if_neg c14] at H
       have c14b0 : decide (a1 ≤ a2) = false := decide_eq_false c14
       clear c14
       simp only [Option.some.injEq, Prod.mk.injEq] at H
       obtain ⟨rfl, rfl, rfl⟩ := H
       go_wp2_with (first | ((with_reducible refine gate_callee (f := 125) rfl ?_); refine goesL_ (some 23) rfl rfl Try.func125 (by kernel_rfl) rfl #[.int .i64 a1, .string a0, .int .i64 a2] rfl ZA ?_; (with_reducible refine (impl_field_named.calls kj3 a1 a0 a2 t1481 true _ A11.out).mono ?_); rintro e w17 ⟨v1483, rfl, ho0, hb⟩; refine ⟨_, rfl, ?_⟩; have n0_ := Aside0.mk (Kd.R_lower ho0 (below_size ZB)); have n1_ := ZL BK1478 hb; have n2_ := Aside0.mk (below_step ZB hb); clear BK1478; clear HB; have HO1484 := n0_; have BK1478 := n1_; have HB := n2_; clear n0_ n1_ n2_; (try clear hb); (try clear hb2); (try clear hk); (try clear hi); (try clear ho0); obtain ⟨Ao18, co18, eo18⟩ := Kd.R_slice HO1484.out; subst eo18; obtain ⟨hcz19_0, hcz19_1, hfz19_0, hfz19_1⟩ := ZD2 BK1478))
       refine bodyPost_ret (results_ct rfl _ _ gb1478 59 #[.int .i64 a1, .slice Ao18 t1481.length co18] (0, 0) _ rfl (by refine ZS ?_; refine blk_put (cs := #[.int .i64 a1, .slice none 0 0]) ?_ 1 _ rfl; refine ZS ?_; refine blk_put (cs := #[.int .i64 0, .slice none 0 0]) ?_ 0 _ rfl; refine ZS ?_; exact BK1478.out) Try.underlying59 rfl (by kernel_rfl)) rfl ?_
       exact ⟨_, by first | rfl | (simp [errW_none, errW_some] <;> rfl) | (simp [*, errW_none, errW_some] <;> rfl), by refine ZQ ?_; exact Kd.R_mono (Kd.R_far (p := ⟨gb1478, 1, none⟩) (Kd.R_far (p := ⟨gb1478, 0, none⟩) (Kd.R_types HO1484.out BK1478.out (by decide)) (fun _ hk => hk.2) (.int .i64 a1)) (fun _ hk => hk.2) (.slice Ao18 t1481.length co18)) (fun _ hk => trivial), ZB⟩
     ·rw [if_neg c13] at H
      have c13b0 : (a0.toList == ([117, 110, 105, 102, 111, 114, 109] : List UInt8)) = false := beq_eq_false_iff_ne.mpr c13
      have c13b1 : (a0.toList != ([117, 110, 105, 102, 111, 114, 109] : List UInt8)) = true := bne_iff_ne.mpr c13
      simp only [Option.some.injEq, Prod.mk.injEq] at H
      obtain ⟨rfl, rfl, rfl⟩ := H
      go_wp2_with (first | ((with_reducible refine gate_callee (f := 125) rfl ?_); refine goesL_ (some 23) rfl rfl Try.func125 (by kernel_rfl) rfl #[.int .i64 a1, .string a0, .int .i64 a2] rfl ZA ?_; (with_reducible refine (impl_field_named.calls kj3 a1 a0 a2 t1481 true _ A11.out).mono ?_); rintro e w20 ⟨v1483, rfl, ho0, hb⟩; refine ⟨_, rfl, ?_⟩; have n0_ := Aside0.mk (Kd.R_lower ho0 (below_size ZB)); have n1_ := ZL BK1478 hb; have n2_ := Aside0.mk (below_step ZB hb); clear BK1478; clear HB; have HO1484 := n0_; have BK1478 := n1_; have HB := n2_; clear n0_ n1_ n2_; (try clear hb); (try clear hb2); (try clear hk); (try clear hi); (try clear ho0); obtain ⟨Ao21, co21, eo21⟩ := Kd.R_slice HO1484.out; subst eo21; obtain ⟨hcz22_0, hcz22_1, hfz22_0, hfz22_1⟩ := ZD2 BK1478))
      refine bodyPost_ret (results_ct rfl _ _ gb1478 59 #[.int .i64 a1, .slice Ao21 t1481.length co21] (0, 0) _ rfl (by refine ZS ?_; refine blk_put (cs := #[.int .i64 a1, .slice none 0 0]) ?_ 1 _ rfl; refine ZS ?_; refine blk_put (cs := #[.int .i64 0, .slice none 0 0]) ?_ 0 _ rfl; refine ZS ?_; exact BK1478.out) Try.underlying59 rfl (by kernel_rfl)) rfl ?_
      exact ⟨_, by first | rfl | (simp [errW_none, errW_some] <;> rfl) | (simp [*, errW_none, errW_some] <;> rfl), by refine ZQ ?_; exact Kd.R_mono (Kd.R_far (p := ⟨gb1478, 1, none⟩) (Kd.R_far (p := ⟨gb1478, 0, none⟩) (Kd.R_types HO1484.out BK1478.out (by decide)) (fun _ hk => hk.2) (.int .i64 a1)) (fun _ hk => hk.2) (.slice Ao21 t1481.length co21)) (fun _ hk => trivial), ZB⟩
    ·replace c12 := Bool.eq_false_iff.mpr c12
     subst c12
     have H1 : (some (0, ([] : List Int), 4)) = some (r1, r2, r3) := by rw [if_neg (show ¬ (false = true) by decide)] at H; exact H
     clear H
     have H := H1
     clear H1
     simp only [Option.some.injEq, Prod.mk.injEq] at H
     obtain ⟨rfl, rfl, rfl⟩ := H
     go_wp2_with (first | ((with_reducible refine gate_callee (f := 125) rfl ?_); refine goesL_ (some 23) rfl rfl Try.func125 (by kernel_rfl) rfl #[.int .i64 a1, .string a0, .int .i64 a2] rfl ZA ?_; (with_reducible refine (impl_field_named.calls kj3 a1 a0 a2 t1481 false _ A11.out).mono ?_); rintro e w23 ⟨v1483, rfl, ho0, hb⟩; refine ⟨_, rfl, ?_⟩; have n0_ := Aside0.mk (Kd.R_lower ho0 (below_size ZB)); have n1_ := ZL BK1478 hb; have n2_ := Aside0.mk (below_step ZB hb); clear BK1478; clear HB; have HO1484 := n0_; have BK1478 := n1_; have HB := n2_; clear n0_ n1_ n2_; (try clear hb); (try clear hb2); (try clear hk); (try clear hi); (try clear ho0); obtain ⟨hcz24_0, hcz24_1, hfz24_0, hfz24_1⟩ := ZD2 BK1478))
     refine bodyPost_ret (results_ct rfl _ _ gb1478 59 #[.int .i64 0, .slice none 0 0] (0, 0) _ rfl (by refine ZS ?_; refine blk_put (cs := #[.int .i64 0, .slice none 0 0]) ?_ 1 _ rfl; refine ZS ?_; refine blk_put (cs := #[.int .i64 0, .slice none 0 0]) ?_ 0 _ rfl; refine ZS ?_; exact BK1478.out) Try.underlying59 rfl (by kernel_rfl)) rfl ?_
     exact ⟨_, by first | rfl | (simp [errW_none, errW_some] <;> rfl) | (simp [*, errW_none, errW_some] <;> rfl), by first | exact Kd.R_nil _ _ _ _ _ | exact Kd.N_nil _ _ _ _ _ | exact Kd.V_nil _ _ _ _ _ | exact Kd.Q_nil _ _ _ _ _ | exact Kd.S_nil _ _ _ _ _, ZB⟩

/-! ### impl_namedBeta: function 126 -/
def impl_namedBeta.j0 : Nat → Int → ByteArray → Bool → Option (Int × Int × Bool)
 | 0, _, _, _ => none
 | k + 1, x1, x7, x8 => if x8 = true then (some (mx x1 1, 1, true)) else (if x7.toList = ([108, 97, 103, 117, 101, 114, 114, 101] : List UInt8) then (some (mx (wrap64 (x1 * x1)) 1, 1, true)) else (if x7.toList = ([99, 97, 116, 97, 108, 97, 110] : List UInt8) then (some (1, 1, true)) else (if x7.toList = ([115, 101, 99, 111, 110, 100] : List UInt8) then (if x1 = 0 then (some (1, 1, true)) else (some (1, 4, true))) else (if x7.toList = ([108, 101, 103, 101, 110, 100, 114, 101] : List UInt8) then (if x1 = 0 then (some (2, 1, true)) else (some (wrap64 (x1 * x1), wrap64 ((wrap64 ((wrap64 (4 * x1)) * x1)) - 1), true))) else (some (0, 0, false))))))
def impl_namedBeta.f (k : Nat) (a0 : ByteArray) (a1 : Int) : Option (Int × Int × Bool) := if a0.toList = ([104, 101, 114, 109, 105, 116, 101] : List UInt8) then (impl_namedBeta.j0 k a1 a0 (a0.toList == ([104, 101, 114, 109, 105, 116, 101] : List UInt8))) else (impl_namedBeta.j0 k a1 a0 (a0.toList == ([112, 111, 105, 115, 115, 111, 110] : List UInt8)))
theorem impl_namedBeta.mono_l : ∀ k, (∀ y0 y1 y2, LeO (impl_namedBeta.j0 k y0 y1 y2) (impl_namedBeta.j0 (k + 1) y0 y1 y2))
 | 0 => fun _ _ _ r h => by simp [impl_namedBeta.j0] at h
 | k + 1 => by
  have ih0 := impl_namedBeta.mono_l k
  ·intro y0 y1 y2
   unfold impl_namedBeta.j0
   repeat' first
   | (with_reducible exact ih0 _ _ _)
   | (with_reducible exact LeO.refl _)
   | (with_reducible exact LeO.none _)
   | (with_reducible refine LeO.ite ?_ ?_)
   | (with_reducible refine LeO.bind ?_ (fun _ => ?_))
   | exact ih0 _ _ _
   | exact LeO.none _
   | refine LeO.ite ?_ ?_
   | refine LeO.bind ?_ (fun _ => ?_)
theorem impl_namedBeta.mono : ∀ a0 a1 k, LeO (impl_namedBeta.f k a0 a1) (impl_namedBeta.f (k + 1) a0 a1) := by
 intro a0 a1 k
 have ih0 := impl_namedBeta.mono_l k
 unfold impl_namedBeta.f
 repeat' first
   | (with_reducible exact ih0 _ _ _)
   | (with_reducible exact LeO.refl _)
   | (with_reducible exact LeO.none _)
   | (with_reducible refine LeO.ite ?_ ?_)
   | (with_reducible refine LeO.bind ?_ (fun _ => ?_))
   | exact ih0 _ _ _
   | exact LeO.none _
   | refine LeO.ite ?_ ?_
   | refine LeO.bind ?_ (fun _ => ?_)
set_option maxHeartbeats 8000000 in
set_option maxRecDepth 100000 in
theorem impl_namedBeta.calls (k : Nat) (a0 : ByteArray) (a1 : Int) (r1 : Int) (r2 : Int) (r3 : Bool) (w : World) (h : impl_namedBeta.f k a0 a1 = some (r1, r2, r3)) :
  Calls Try.prog 126 #[.string a0, .int .i64 a1] w fun e w' => e = .returned (.tuple #[.int .i64 r1, .int .i64 r2, .bool r3]) ∧ Below w.heap.size w w' := by
 have HB := Aside0.mk (Below.refl w.heap.size w)
 have H : (if a0.toList = ([104, 101, 114, 109, 105, 116, 101] : List UInt8) then (impl_namedBeta.j0 k a1 a0 (a0.toList == ([104, 101, 114, 109, 105, 116, 101] : List UInt8))) else (impl_namedBeta.j0 k a1 a0 (a0.toList == ([112, 111, 105, 115, 115, 111, 110] : List UInt8)))) = some (r1, r2, r3) := h
 clear h
 have HC3 := Aside0.mk H
 clear H
 go_enter Try.func126, Try.ntmps126
 go_upto_if 8 with (fail)
 go_cut [8] (fun v8 wc => ∃ (kq : Nat) (x8_2 : Bool), v8 = .bool x8_2 ∧ Aside0 (impl_namedBeta.j0 kq a1 a0 x8_2 = some (r1, r2, r3)) ∧ Aside0 (kq ≤ k) ∧ Aside0 (Below w.heap.size w wc))
 case first =>
  have H := HC3.out
  clear HC3
  by_cases c4 : a0.toList = ([104, 101, 114, 109, 105, 116, 101] : List UInt8)
  ·rw [if_pos c4] at H
   have c4b0 : (a0.toList == ([104, 101, 114, 109, 105, 116, 101] : List UInt8)) = true := beq_iff_eq.mpr c4
   have c4b1 : (a0.toList != ([104, 101, 114, 109, 105, 116, 101] : List UInt8)) = false := bne_eq_false_iff_eq.mpr c4
   clear c4
   (first | rw [c4b0] | (simp only [i64_w, i32_w]; rw [c4b0]) | skip)
   have H' := Aside0.mk H
   clear H
   go_wp2
   go_meet
   case rel => exact ⟨_, ((a0.toList == ([104, 101, 114, 109, 105, 116, 101] : List UInt8))), (by first | rfl | (simp; done) | (simp [*]; done)), H', ⟨by first | omega | exact Nat.le_refl _⟩, ⟨ZB⟩⟩
  ·rw [if_neg c4] at H
   have c4b0 : (a0.toList == ([104, 101, 114, 109, 105, 116, 101] : List UInt8)) = false := beq_eq_false_iff_ne.mpr c4
   have c4b1 : (a0.toList != ([104, 101, 114, 109, 105, 116, 101] : List UInt8)) = true := bne_iff_ne.mpr c4
   (first | rw [c4b0] | (simp only [i64_w, i32_w]; rw [c4b0]) | skip)
   have H' := Aside0.mk H
   clear H
   go_wp2
   go_meet
   case rel => exact ⟨_, ((a0.toList == ([112, 111, 105, 115, 115, 111, 110] : List UInt8))), (by first | rfl | (simp; done) | (simp [*]; done)), H', ⟨by first | omega | exact Nat.le_refl _⟩, ⟨ZB⟩⟩
 case rest =>
  clear HC3
  try clear c1
  try clear p2
  try clear c4
  try clear c4b0
  try clear c4b1
  obtain ⟨kq, x8_2, rfl, HA, HJ2, HB⟩ := hcut
  cases kq with
  | zero => exact absurd HA.out (by simp [impl_namedBeta.j0])
  | succ kj2 =>
   have H := HA.out
   clear HA
   simp only [impl_namedBeta.j0] at H
   by_cases c5 : x8_2 = true
   ·subst c5
    have H1 : (some (mx a1 1, 1, true)) = some (r1, r2, r3) := by rw [if_pos rfl] at H; exact H
    clear H
    have H := H1
    clear H1
    obtain ⟨ji6, hji6⟩ : ∃ j_ : Int, (mx a1 1) = j_ := ⟨_, rfl⟩
    replace H : (some (ji6, 1, true)) = some (r1, r2, r3) := by first | (rw [hji6] at H; exact H) | (simp only [hji6] at H ⊢; exact H)
    have hji6_ : (if a1 < 1 then 1 else a1) = ji6 := hji6
    simp only [Option.some.injEq, Prod.mk.injEq] at H
    obtain ⟨rfl, rfl, rfl⟩ := H
    go_wp2
    go_ret3
    exact ⟨by first | rfl | (simp [errW_none, errW_some] <;> rfl) | (simp only [← hji6]; first | rfl | (simp [errW_none, errW_some] <;> rfl)) | (simp [*, errW_none, errW_some] <;> rfl), ZB⟩
   ·replace c5 := Bool.eq_false_iff.mpr c5
    subst c5
    have H1 : (if a0.toList = ([108, 97, 103, 117, 101, 114, 114, 101] : List UInt8) then (some (mx (wrap64 (a1 * a1)) 1, 1, true)) else (if a0.toList = ([99, 97, 116, 97, 108, 97, 110] : List UInt8) then (some (1, 1, true)) else (if a0.toList = ([115, 101, 99, 111, 110, 100] : List UInt8) then (if a1 = 0 then (some (1, 1, true)) else (some (1, 4, true))) else (if a0.toList = ([108, 101, 103, 101, 110, 100, 114, 101] : List UInt8) then (if a1 = 0 then (some (2, 1, true)) else (some (wrap64 (a1 * a1), wrap64 ((wrap64 ((wrap64 (4 * a1)) * a1)) - 1), true))) else (some (0, 0, false)))))) = some (r1, r2, r3) := by rw [if_neg (show ¬ (false = true) by decide)] at H; exact H
    clear H
    have H := H1
    clear H1
    by_cases c7 : a0.toList = ([108, 97, 103, 117, 101, 114, 114, 101] : List UInt8)
    ·rw [if_pos c7] at H
     have c7b0 : (a0.toList == ([108, 97, 103, 117, 101, 114, 114, 101] : List UInt8)) = true := beq_iff_eq.mpr c7
     have c7b1 : (a0.toList != ([108, 97, 103, 117, 101, 114, 114, 101] : List UInt8)) = false := bne_eq_false_iff_eq.mpr c7
     clear c7
     obtain ⟨ji8, hji8⟩ : ∃ j_ : Int, (mx (wrap64 (a1 * a1)) 1) = j_ := ⟨_, rfl⟩
     replace H : (some (ji8, 1, true)) = some (r1, r2, r3) := by first | (rw [hji8] at H; exact H) | (simp only [hji8] at H ⊢; exact H)
     have hji8_ : (if (wrap64 (a1 * a1)) < 1 then 1 else (wrap64 (a1 * a1))) = ji8 := hji8
     simp only [Option.some.injEq, Prod.mk.injEq] at H
     obtain ⟨rfl, rfl, rfl⟩ := H
     go_wp2
     go_ret3
     exact ⟨by first | rfl | (simp [errW_none, errW_some] <;> rfl) | (simp only [← hji8]; first | rfl | (simp [errW_none, errW_some] <;> rfl)) | (simp [*, errW_none, errW_some] <;> rfl), ZB⟩
    ·rw [if_neg c7] at H
     have c7b0 : (a0.toList == ([108, 97, 103, 117, 101, 114, 114, 101] : List UInt8)) = false := beq_eq_false_iff_ne.mpr c7
     have c7b1 : (a0.toList != ([108, 97, 103, 117, 101, 114, 114, 101] : List UInt8)) = true := bne_iff_ne.mpr c7
     by_cases c9 : a0.toList = ([99, 97, 116, 97, 108, 97, 110] : List UInt8)
     ·rw [if_pos c9] at H
      have c9b0 : (a0.toList == ([99, 97, 116, 97, 108, 97, 110] : List UInt8)) = true := beq_iff_eq.mpr c9
      have c9b1 : (a0.toList != ([99, 97, 116, 97, 108, 97, 110] : List UInt8)) = false := bne_eq_false_iff_eq.mpr c9
      clear c9
      simp only [Option.some.injEq, Prod.mk.injEq] at H
      obtain ⟨rfl, rfl, rfl⟩ := H
      go_wp2
      go_ret3
      exact ⟨by first | rfl | (simp [errW_none, errW_some] <;> rfl) | (simp [*, errW_none, errW_some] <;> rfl), ZB⟩
     ·rw [if_neg c9] at H
      have c9b0 : (a0.toList == ([99, 97, 116, 97, 108, 97, 110] : List UInt8)) = false := beq_eq_false_iff_ne.mpr c9
      have c9b1 : (a0.toList != ([99, 97, 116, 97, 108, 97, 110] : List UInt8)) = true := bne_iff_ne.mpr c9
      by_cases c10 : a0.toList = ([115, 101, 99, 111, 110, 100] : List UInt8)
      ·rw [if_pos c10] at H
       have c10b0 : (a0.toList == ([115, 101, 99, 111, 110, 100] : List UInt8)) = true := beq_iff_eq.mpr c10
       have c10b1 : (a0.toList != ([115, 101, 99, 111, 110, 100] : List UInt8)) = false := bne_eq_false_iff_eq.mpr c10
       clear c10
       by_cases c11 : a1 = 0
       ·rw [if_pos c11] at H
        have c11b0 : (a1 == 0) = true := beq_iff_eq.mpr c11
        have c11b1 : (a1 != 0) = false := bne_eq_false_iff_eq.mpr c11
        clear c11
        simp only [Option.some.injEq, Prod.mk.injEq] at H
        obtain ⟨rfl, rfl, rfl⟩ := H
        go_wp2
        go_ret3
        exact ⟨by first | rfl | (simp [errW_none, errW_some] <;> rfl) | (simp [*, errW_none, errW_some] <;> rfl), ZB⟩
       ·rw [if_neg c11] at H
        have c11b0 : (a1 == 0) = false := beq_eq_false_iff_ne.mpr c11
        have c11b1 : (a1 != 0) = true := bne_iff_ne.mpr c11
        simp only [Option.some.injEq, Prod.mk.injEq] at H
        obtain ⟨rfl, rfl, rfl⟩ := H
        go_wp2
        go_ret3
        exact ⟨by first | rfl | (simp [errW_none, errW_some] <;> rfl) | (simp [*, errW_none, errW_some] <;> rfl), ZB⟩
      ·rw [if_neg c10] at H
       have c10b0 : (a0.toList == ([115, 101, 99, 111, 110, 100] : List UInt8)) = false := beq_eq_false_iff_ne.mpr c10
       have c10b1 : (a0.toList != ([115, 101, 99, 111, 110, 100] : List UInt8)) = true := bne_iff_ne.mpr c10
       by_cases c12 : a0.toList = ([108, 101, 103, 101, 110, 100, 114, 101] : List UInt8)
       ·rw [if_pos c12] at H
        have c12b0 : (a0.toList == ([108, 101, 103, 101, 110, 100, 114, 101] : List UInt8)) = true := beq_iff_eq.mpr c12
        have c12b1 : (a0.toList != ([108, 101, 103, 101, 110, 100, 114, 101] : List UInt8)) = false := bne_eq_false_iff_eq.mpr c12
        clear c12
        by_cases c13 : a1 = 0
        ·rw [if_pos c13] at H
         have c13b0 : (a1 == 0) = true := beq_iff_eq.mpr c13
         have c13b1 : (a1 != 0) = false := bne_eq_false_iff_eq.mpr c13
         clear c13
         simp only [Option.some.injEq, Prod.mk.injEq] at H
         obtain ⟨rfl, rfl, rfl⟩ := H
         go_wp2
         go_ret3
         exact ⟨by first | rfl | (simp [errW_none, errW_some] <;> rfl) | (simp [*, errW_none, errW_some] <;> rfl), ZB⟩
        ·rw [if_neg c13] at H
         have c13b0 : (a1 == 0) = false := beq_eq_false_iff_ne.mpr c13
         have c13b1 : (a1 != 0) = true := bne_iff_ne.mpr c13
         simp only [Option.some.injEq, Prod.mk.injEq] at H
         obtain ⟨rfl, rfl, rfl⟩ := H
         go_wp2
         go_ret3
         exact ⟨by first | rfl | (simp [errW_none, errW_some] <;> rfl) | (simp [*, errW_none, errW_some] <;> rfl), ZB⟩
       ·rw [if_neg c12] at H
        have c12b0 : (a0.toList == ([108, 101, 103, 101, 110, 100, 114, 101] : List UInt8)) = false := beq_eq_false_iff_ne.mpr c12
        have c12b1 : (a0.toList != ([108, 101, 103, 101, 110, 100, 114, 101] : List UInt8)) = true := bne_iff_ne.mpr c12
        simp only [Option.some.injEq, Prod.mk.injEq] at H
        obtain ⟨rfl, rfl, rfl⟩ := H
        go_wp2
        go_ret3
        exact ⟨by first | rfl | (simp [errW_none, errW_some] <;> rfl) | (simp [*, errW_none, errW_some] <;> rfl), ZB⟩

/-! ### impl_namedAlpha: function 127 -/
def impl_namedAlpha.f (a0 : ByteArray) (a1 : Int) : Option (Int) := if a0.toList = ([108, 97, 103, 117, 101, 114, 114, 101] : List UInt8) then (some (wrap64 ((wrap64 (2 * a1)) + 1))) else (if a0.toList = ([112, 111, 105, 115, 115, 111, 110] : List UInt8) then (some (wrap64 (a1 + 1))) else (if a0.toList = ([99, 97, 116, 97, 108, 97, 110] : List UInt8) then (some (mn (wrap64 (a1 + 1)) 2)) else (some 0)))
set_option maxHeartbeats 8000000 in
set_option maxRecDepth 100000 in
theorem impl_namedAlpha.calls (a0 : ByteArray) (a1 : Int) (r : Int) (w : World) (h : impl_namedAlpha.f a0 a1 = some r) :
  Calls Try.prog 127 #[.string a0, .int .i64 a1] w fun e w' => e = .returned (.int .i64 r) ∧ Below w.heap.size w w' := by
 have HB := Aside0.mk (Below.refl w.heap.size w)
 have H : (if a0.toList = ([108, 97, 103, 117, 101, 114, 114, 101] : List UInt8) then (some (wrap64 ((wrap64 (2 * a1)) + 1))) else (if a0.toList = ([112, 111, 105, 115, 115, 111, 110] : List UInt8) then (some (wrap64 (a1 + 1))) else (if a0.toList = ([99, 97, 116, 97, 108, 97, 110] : List UInt8) then (some (mn (wrap64 (a1 + 1)) 2)) else (some 0)))) = some r := h
 clear h
 by_cases c3 : a0.toList = ([108, 97, 103, 117, 101, 114, 114, 101] : List UInt8)
 ·rw [if_pos c3] at H
  have c3b0 : (a0.toList == ([108, 97, 103, 117, 101, 114, 114, 101] : List UInt8)) = true := beq_iff_eq.mpr c3
  have c3b1 : (a0.toList != ([108, 97, 103, 117, 101, 114, 114, 101] : List UInt8)) = false := bne_eq_false_iff_eq.mpr c3
  clear c3
  obtain rfl := Option.some.inj H
  go_enter Try.func127, Try.ntmps127
  go_wp2
  go_ret
  exact ⟨by first | rfl | (simp [errW_none, errW_some] <;> rfl) | (simp [*, errW_none, errW_some] <;> rfl), ZB⟩
 ·rw [if_neg c3] at H
  have c3b0 : (a0.toList == ([108, 97, 103, 117, 101, 114, 114, 101] : List UInt8)) = false := beq_eq_false_iff_ne.mpr c3
  have c3b1 : (a0.toList != ([108, 97, 103, 117, 101, 114, 114, 101] : List UInt8)) = true := bne_iff_ne.mpr c3
  by_cases c4 : a0.toList = ([112, 111, 105, 115, 115, 111, 110] : List UInt8)
  ·rw [if_pos c4] at H
   have c4b0 : (a0.toList == ([112, 111, 105, 115, 115, 111, 110] : List UInt8)) = true := beq_iff_eq.mpr c4
   have c4b1 : (a0.toList != ([112, 111, 105, 115, 115, 111, 110] : List UInt8)) = false := bne_eq_false_iff_eq.mpr c4
   clear c4
   obtain rfl := Option.some.inj H
   go_enter Try.func127, Try.ntmps127
   go_wp2
   go_ret
   exact ⟨by first | rfl | (simp [errW_none, errW_some] <;> rfl) | (simp [*, errW_none, errW_some] <;> rfl), ZB⟩
  ·rw [if_neg c4] at H
   have c4b0 : (a0.toList == ([112, 111, 105, 115, 115, 111, 110] : List UInt8)) = false := beq_eq_false_iff_ne.mpr c4
   have c4b1 : (a0.toList != ([112, 111, 105, 115, 115, 111, 110] : List UInt8)) = true := bne_iff_ne.mpr c4
   by_cases c5 : a0.toList = ([99, 97, 116, 97, 108, 97, 110] : List UInt8)
   ·rw [if_pos c5] at H
    have c5b0 : (a0.toList == ([99, 97, 116, 97, 108, 97, 110] : List UInt8)) = true := beq_iff_eq.mpr c5
    have c5b1 : (a0.toList != ([99, 97, 116, 97, 108, 97, 110] : List UInt8)) = false := bne_eq_false_iff_eq.mpr c5
    clear c5
    obtain ⟨ji6, hji6⟩ : ∃ j_ : Int, (mn (wrap64 (a1 + 1)) 2) = j_ := ⟨_, rfl⟩
    replace H : (some ji6) = some r := by first | (rw [hji6] at H; exact H) | (simp only [hji6] at H ⊢; exact H)
    (try (have hji6h : ji6 ≤ 2 := by (rw [← hji6]; unfold mn; (repeat' split) <;> omega)))
    (try (have hji6g : ji6 ≤ 64 := by omega))
    have hji6_ : (if 2 < (wrap64 (a1 + 1)) then 2 else (wrap64 (a1 + 1))) = ji6 := hji6
    obtain rfl := Option.some.inj H
    go_enter Try.func127, Try.ntmps127
    go_wp2
    go_ret
    exact ⟨by first | rfl | (simp [errW_none, errW_some] <;> rfl) | (simp only [← hji6]; first | rfl | (simp [errW_none, errW_some] <;> rfl)) | (simp [*, errW_none, errW_some] <;> rfl), ZB⟩
   ·rw [if_neg c5] at H
    have c5b0 : (a0.toList == ([99, 97, 116, 97, 108, 97, 110] : List UInt8)) = false := beq_eq_false_iff_ne.mpr c5
    have c5b1 : (a0.toList != ([99, 97, 116, 97, 108, 97, 110] : List UInt8)) = true := bne_iff_ne.mpr c5
    obtain rfl := Option.some.inj H
    go_enter Try.func127, Try.ntmps127
    go_wp2
    go_ret
    exact ⟨by first | rfl | (simp [errW_none, errW_some] <;> rfl) | (simp [*, errW_none, errW_some] <;> rfl), ZB⟩

end Go.Proofs.Ytaclapojgdekpaa.X
