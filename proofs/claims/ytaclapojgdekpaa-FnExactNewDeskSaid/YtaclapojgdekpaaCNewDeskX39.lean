/- Contracts of functions that the law reaches, printed by a program of this session; Lean checks them. -/
import Derived.Test.YtaclapojgdekpaaCNewDeskX0
import Derived.Test.YtaclapojgdekpaaCNewDeskX1
import Derived.Test.YtaclapojgdekpaaCNewDeskX37
import Derived.Test.YtaclapojgdekpaaCNewDeskX38
import Derived.Test.YtaclapojgdekpaaCNewDeskXZ
namespace Go.Proofs.Ytaclapojgdekpaa.X
open Go.RowKit Go.Proofs.YtaclapojgdekpaaW.PrintWords Go.Proofs.YtaclapojgdekpaaW.PrintLast Go.Proofs.YtaclapojgdekpaaW.PrintMore
attribute [local go_sem] max2_int min2_int max_two min_two max_three min_three max_four min_four   -- for this text's walks alone
set_option linter.unusedVariables false
set_option linter.unusedSimpArgs false

/-! ### spec_NamedMoments: function 123 -/
def spec_NamedMoments.j0 : Nat → ByteArray → Int → Int → Bool → Option (Int × List Int × Int)
 | 0, _, _, _, _ => none
 | k + 1, x0, x1, x2, x10 => if x10 = true then (some (0, ([] : List Int), 2)) else ((spec_l02Known.f x0).bind fun t1358 => (if t1358 = true then ((spec_l02Named.f k x0 x1 x2).bind fun bt1359 => (if bt1359.2 = true then (some (x1, bt1359.1, 0)) else (some (0, ([] : List Int), 5)))) else (some (0, ([] : List Int), 4))))
def spec_NamedMoments.f (k : Nat) (a0 : ByteArray) (a1 : Int) (a2 : Int) : Option (Int × List Int × Int) := (spec_l01Prime.f k a1).bind fun t1356 => (if t1356 = true then ((spec_l01In.f a2 1 24).bind fun t1357 => (spec_NamedMoments.j0 k a0 a1 a2 (!t1357))) else (spec_NamedMoments.j0 k a0 a1 a2 true))
theorem spec_NamedMoments.mono_l : ∀ k, (∀ y0 y1 y2 y3, LeO (spec_NamedMoments.j0 k y0 y1 y2 y3) (spec_NamedMoments.j0 (k + 1) y0 y1 y2 y3))
 | 0 => fun _ _ _ _ r h => by simp [spec_NamedMoments.j0] at h
 | k + 1 => by
  have ih0 := spec_NamedMoments.mono_l k
  ·intro y0 y1 y2 y3
   unfold spec_NamedMoments.j0
   repeat' first
   | (with_reducible exact ih0 _ _ _ _)
   | (with_reducible exact spec_l01Prime.mono _ _)
   | (with_reducible exact spec_l02Named.mono _ _ _ _)
   | (with_reducible exact LeO.refl _)
   | (with_reducible exact LeO.none _)
   | (with_reducible refine LeO.ite ?_ ?_)
   | (with_reducible refine LeO.bind ?_ (fun _ => ?_))
   | exact ih0 _ _ _ _
   | exact spec_l01Prime.mono _ _
   | exact spec_l02Named.mono _ _ _ _
   | exact LeO.none _
   | refine LeO.ite ?_ ?_
   | refine LeO.bind ?_ (fun _ => ?_)
theorem spec_NamedMoments.mono : ∀ a0 a1 a2 k, LeO (spec_NamedMoments.f k a0 a1 a2) (spec_NamedMoments.f (k + 1) a0 a1 a2) := by
 intro a0 a1 a2 k
 have ih0 := spec_NamedMoments.mono_l k
 unfold spec_NamedMoments.f
 repeat' first
   | (with_reducible exact ih0 _ _ _ _)
   | (with_reducible exact spec_l01Prime.mono _ _)
   | (with_reducible exact spec_l02Named.mono _ _ _ _)
   | (with_reducible exact LeO.refl _)
   | (with_reducible exact LeO.none _)
   | (with_reducible refine LeO.ite ?_ ?_)
   | (with_reducible refine LeO.bind ?_ (fun _ => ?_))
   | exact ih0 _ _ _ _
   | exact spec_l01Prime.mono _ _
   | exact spec_l02Named.mono _ _ _ _
   | exact LeO.none _
   | refine LeO.ite ?_ ?_
   | refine LeO.bind ?_ (fun _ => ?_)
set_option maxHeartbeats 8000000 in
set_option maxRecDepth 100000 in
theorem spec_NamedMoments.calls (k : Nat) (a0 : ByteArray) (a1 : Int) (a2 : Int) (r1 : Int) (r2 : List Int) (r3 : Int) (w : World) (h : spec_NamedMoments.f k a0 a1 a2 = some (r1, r2, r3)) :
  Calls Try.prog 123 #[.string a0, .int .i64 a1, .int .i64 a2] w fun e w' => ∃ v1_ : Value, e = .returned (.tuple #[.agg #[.int .i64 r1, v1_], .int .i64 r3]) ∧ Kd.R (Kd.int .i64) 2 w' w.heap.size (fun _ => True) v1_ r2 ∧ Below w.heap.size w w' := by
 have hu59 := Try.underlying59
 have HB := Aside0.mk (Below.refl w.heap.size w)
 have H : ((spec_l01Prime.f k a1).bind fun t1356 => (if t1356 = true then ((spec_l01In.f a2 1 24).bind fun t1357 => (spec_NamedMoments.j0 k a0 a1 a2 (!t1357))) else (spec_NamedMoments.j0 k a0 a1 a2 true))) = some (r1, r2, r3) := h
 clear h
 have HC4 := Aside0.mk H
 clear H
 go_enter Try.func123, Try.ntmps123
 go_upto_region 1 with (first | ((with_reducible refine gate_dst (N := 6) rfl ?_); refine box_event ?hg (N := 6) ?hd (cs := #[.int .i64 0, .slice none 0 0]) (t := 59) ?hr ?_; (case hd => rfl); (case hg => rfl); (case hr => first | (go_simp; done) | (go_simp; rfl)); intro gb1355 hg w5 hbox hb; have n0_ := Aside0.mk (below_step ZB hb); have n1_ := Aside0.mk (hbox); have n2_ := Aside0.mk ((ZG hg : w.heap.size ≤ gb1355)); have n3_ := Aside0.mk ((ZG hg : w.heap.size ≤ gb1355)); clear HB; have HB := n0_; have BK1355 := n1_; have GW1355 := n2_; have GE1355 := n3_; clear n0_ n1_ n2_ n3_; clear hb hbox hg))
 (try simp only [Act.put, List.setIfInBounds_toArray, List.set_cons_zero, List.set_cons_succ])
 go_cut [10] (fun v10 wc => ∃ (kq : Nat) (x10_3 : Bool), v10 = .bool x10_3 ∧ Aside0 (spec_NamedMoments.j0 kq a0 a1 a2 x10_3 = some (r1, r2, r3)) ∧ Aside0 (kq ≤ k) ∧ Aside0 (wc.heap[gb1355]? = some (.cells #[.int .i64 0, (.slice none 0 0)] 59 (0, 0))) ∧ Aside0 (Below w.heap.size w wc))
 case first =>
  have H := HC4.out
  clear HC4
  replace H := Option.bind_eq_some_iff.mp H
  obtain ⟨t1356, A60, H⟩ := H
  replace H : (if t1356 = true then ((spec_l01In.f a2 1 24).bind fun t1357 => (spec_NamedMoments.j0 k a0 a1 a2 (!t1357))) else (spec_NamedMoments.j0 k a0 a1 a2 true)) = some (r1, r2, r3) := H
  have A6 := Aside0.mk A60
  clear A60
  by_cases c7 : t1356 = true
  ·subst c7
   have H1 : ((spec_l01In.f a2 1 24).bind fun t1357 => (spec_NamedMoments.j0 k a0 a1 a2 (!t1357))) = some (r1, r2, r3) := by rw [if_pos rfl] at H; exact H
   clear H
   have H := H1
   clear H1
   replace H := Option.bind_eq_some_iff.mp H
   obtain ⟨t1357, A80, H⟩ := H
   replace H : (spec_NamedMoments.j0 k a0 a1 a2 (!t1357)) = some (r1, r2, r3) := H
   have A8 := Aside0.mk A80
   clear A80
   have H' := Aside0.mk H
   clear H
   go_wp2_with (first | ((with_reducible refine gate_callee (f := 95) rfl ?_); refine goesL_ (some 12) rfl rfl Try.func95 (by kernel_rfl) rfl #[.int .i64 a1] rfl ZA ?_; (with_reducible refine (spec_l01Prime.calls k a1 true _ A6.out).mono ?_); rintro e w' ⟨rfl, ⟨nd, rfl⟩⟩; refine ⟨_, rfl, ?_⟩) | (go_at_call 83; (with_reducible refine (spec_l01In.calls a2 1 24 t1357 _ A8.out).mono ?_); rintro e w' ⟨rfl, ⟨nd, rfl⟩⟩))
   go_meet
   case rel => exact ⟨_, (!t1357), (by first | rfl | (simp; done) | (simp [*]; done)), H', ⟨by first | omega | exact Nat.le_refl _⟩, ⟨ZK BK1355⟩, ⟨ZB⟩⟩
  ·replace c7 := Bool.eq_false_iff.mpr c7
   subst c7
   have H1 : (spec_NamedMoments.j0 k a0 a1 a2 true) = some (r1, r2, r3) := by rw [if_neg (show ¬ (false = true) by decide)] at H; exact H
   clear H
   have H := H1
   clear H1
   have H' := Aside0.mk H
   clear H
   go_wp2_with (first | ((with_reducible refine gate_callee (f := 95) rfl ?_); refine goesL_ (some 12) rfl rfl Try.func95 (by kernel_rfl) rfl #[.int .i64 a1] rfl ZA ?_; (with_reducible refine (spec_l01Prime.calls k a1 false _ A6.out).mono ?_); rintro e w' ⟨rfl, ⟨nd, rfl⟩⟩; refine ⟨_, rfl, ?_⟩))
   go_meet
   case rel => exact ⟨_, (true), (by first | rfl | (simp; done) | (simp [*]; done)), H', ⟨by first | omega | exact Nat.le_refl _⟩, ⟨ZK BK1355⟩, ⟨ZB⟩⟩
 case rest =>
  clear HC4
  try clear c1
  try clear p2
  try clear c7
  obtain ⟨kq, x10_3, rfl, HA, HJ3, BK1355, HB⟩ := hcut
  cases kq with
  | zero => exact absurd HA.out (by simp [spec_NamedMoments.j0])
  | succ kj3 =>
   have H := HA.out
   clear HA
   simp only [spec_NamedMoments.j0] at H
   by_cases c9 : x10_3 = true
   ·subst c9
    have H1 : (some (0, ([] : List Int), 2)) = some (r1, r2, r3) := by rw [if_pos rfl] at H; exact H
    clear H
    have H := H1
    clear H1
    simp only [Option.some.injEq, Prod.mk.injEq] at H
    obtain ⟨rfl, rfl, rfl⟩ := H
    obtain ⟨hcz10_0, hcz10_1, hfz10_0, hfz10_1⟩ := ZD2 BK1355
    go_wp2
    refine bodyPost_ret (results_ct rfl _ _ gb1355 59 #[.int .i64 0, .slice none 0 0] (0, 0) _ rfl (by refine ZS ?_; refine blk_put (cs := #[.int .i64 0, .slice none 0 0]) ?_ 1 _ rfl; refine ZS ?_; refine blk_put (cs := #[.int .i64 0, .slice none 0 0]) ?_ 0 _ rfl; refine ZS ?_; exact BK1355.out) Try.underlying59 rfl (by kernel_rfl)) rfl ?_
    exact ⟨_, by first | rfl | (simp [errW_none, errW_some] <;> rfl) | (simp [*, errW_none, errW_some] <;> rfl), by first | exact Kd.R_nil _ _ _ _ _ | exact Kd.N_nil _ _ _ _ _ | exact Kd.V_nil _ _ _ _ _ | exact Kd.Q_nil _ _ _ _ _ | exact Kd.S_nil _ _ _ _ _, ZB⟩
   ·replace c9 := Bool.eq_false_iff.mpr c9
    subst c9
    have H1 : ((spec_l02Known.f a0).bind fun t1358 => (if t1358 = true then ((spec_l02Named.f kj3 a0 a1 a2).bind fun bt1359 => (if bt1359.2 = true then (some (a1, bt1359.1, 0)) else (some (0, ([] : List Int), 5)))) else (some (0, ([] : List Int), 4)))) = some (r1, r2, r3) := by rw [if_neg (show ¬ (false = true) by decide)] at H; exact H
    clear H
    have H := H1
    clear H1
    replace H := Option.bind_eq_some_iff.mp H
    obtain ⟨t1358, A110, H⟩ := H
    replace H : (if t1358 = true then ((spec_l02Named.f kj3 a0 a1 a2).bind fun bt1359 => (if bt1359.2 = true then (some (a1, bt1359.1, 0)) else (some (0, ([] : List Int), 5)))) else (some (0, ([] : List Int), 4))) = some (r1, r2, r3) := H
    have A11 := Aside0.mk A110
    clear A110
    by_cases c12 : t1358 = true
    ·subst c12
     have H1 : ((spec_l02Named.f kj3 a0 a1 a2).bind fun bt1359 => (if bt1359.2 = true then (some (a1, bt1359.1, 0)) else (some (0, ([] : List Int), 5)))) = some (r1, r2, r3) := by rw [if_pos rfl] at H; exact H
     clear H
     have H := H1
     clear H1
     replace H := Option.bind_eq_some_iff.mp H
     obtain ⟨⟨t1359, t1360⟩, A130, H⟩ := H
     replace H : (if t1360 = true then (some (a1, t1359, 0)) else (some (0, ([] : List Int), 5))) = some (r1, r2, r3) := H
     have A13 := Aside0.mk A130
     clear A130
     by_cases c14 : t1360 = true
     ·subst c14
      have H1 : (some (a1, t1359, 0)) = some (r1, r2, r3) := by rw [if_pos rfl] at H; exact H
      clear H
      have H := H1
      clear H1
      simp only [Option.some.injEq, Prod.mk.injEq] at H
      obtain ⟨rfl, rfl, rfl⟩ := H
      go_wp2_with (first | ((with_reducible refine gate_callee (f := 130) rfl ?_); refine goesL_ (some 22) rfl rfl Try.func130 (by kernel_rfl) rfl #[.string a0] rfl ZA ?_; (with_reducible refine (spec_l02Known.calls a0 true _ A11.out).mono ?_); rintro e w' ⟨rfl, ⟨nd, rfl⟩⟩; refine ⟨_, rfl, ?_⟩; (try (rw [drewN_self wc]; generalize hq_ : World.drewN wc _ = wc; have n0_ : Aside0 (wc.heap[gb1355]? = some (.cells #[.int .i64 0, .slice none 0 0] 59 (0, 0))) := ⟨by rw [← hq_]; exact (ZK BK1355)⟩; have n1_ : Aside0 (Below w.heap.size w wc) := ⟨by rw [← hq_]; exact ZB⟩; clear BK1355 HB hq_; have BK1355 := n0_; have HB := n1_; clear n0_ n1_)); (try (obtain ⟨hcy1355_0, hcy1355_1, hfy1355_0, hfy1355_1⟩ := ZD2 BK1355))) | ((with_reducible refine gate_callee (f := 131) rfl ?_); refine goesL_ (some 29) rfl rfl Try.func131 (by kernel_rfl) rfl #[.string a0, .int .i64 a1, .int .i64 a2] rfl ZA ?_; (with_reducible refine (spec_l02Named.calls kj3 a0 a1 a2 t1359 true _ A13.out).mono ?_); rintro e w15 ⟨v1361, rfl, ho0, hb⟩; refine ⟨_, rfl, ?_⟩; have n0_ := Aside0.mk (Kd.R_lower ho0 (below_size ZB)); have n1_ := ZL BK1355 hb; have n2_ := Aside0.mk (below_step ZB hb); clear BK1355; clear HB; have HO1362 := n0_; have BK1355 := n1_; have HB := n2_; clear n0_ n1_ n2_; (try clear hb); (try clear hb2); (try clear hk); (try clear hi); (try clear ho0); obtain ⟨Ao16, co16, eo16⟩ := Kd.R_slice HO1362.out; subst eo16; obtain ⟨hcz17_0, hcz17_1, hfz17_0, hfz17_1⟩ := ZD2 BK1355))
      refine bodyPost_ret (results_ct rfl _ _ gb1355 59 #[.int .i64 a1, .slice Ao16 t1359.length co16] (0, 0) _ rfl (by refine ZS ?_; refine blk_put (cs := #[.int .i64 a1, .slice none 0 0]) ?_ 1 _ rfl; refine ZS ?_; refine blk_put (cs := #[.int .i64 0, .slice none 0 0]) ?_ 0 _ rfl; refine ZS ?_; exact BK1355.out) Try.underlying59 rfl (by kernel_rfl)) rfl ?_
      exact ⟨_, by first | rfl | (simp [errW_none, errW_some] <;> rfl) | (simp [*, errW_none, errW_some] <;> rfl), by refine ZQ ?_; exact Kd.R_mono (Kd.R_far (p := ⟨gb1355, 1, none⟩) (Kd.R_far (p := ⟨gb1355, 0, none⟩) (Kd.R_types HO1362.out BK1355.out (by decide)) (fun _ hk => hk.2) (.int .i64 a1)) (fun _ hk => hk.2) (.slice Ao16 t1359.length co16)) (fun _ hk => trivial), ZB⟩
     ·replace c14 := Bool.eq_false_iff.mpr c14
      subst c14
      have H1 : (some (0, ([] : List Int), 5)) = some (r1, r2, r3) := by rw [if_neg (show ¬ (false = true) by decide)] at H; exact H
      clear H
      have H := H1
      clear H1
      simp only [Option.some.injEq, Prod.mk.injEq] at H
      obtain ⟨rfl, rfl, rfl⟩ := H
      go_wp2_with (first | ((with_reducible refine gate_callee (f := 130) rfl ?_); refine goesL_ (some 22) rfl rfl Try.func130 (by kernel_rfl) rfl #[.string a0] rfl ZA ?_; (with_reducible refine (spec_l02Known.calls a0 true _ A11.out).mono ?_); rintro e w' ⟨rfl, ⟨nd, rfl⟩⟩; refine ⟨_, rfl, ?_⟩; (try (rw [drewN_self wc]; generalize hq_ : World.drewN wc _ = wc; have n0_ : Aside0 (wc.heap[gb1355]? = some (.cells #[.int .i64 0, .slice none 0 0] 59 (0, 0))) := ⟨by rw [← hq_]; exact (ZK BK1355)⟩; have n1_ : Aside0 (Below w.heap.size w wc) := ⟨by rw [← hq_]; exact ZB⟩; clear BK1355 HB hq_; have BK1355 := n0_; have HB := n1_; clear n0_ n1_)); (try (obtain ⟨hcy1355_0, hcy1355_1, hfy1355_0, hfy1355_1⟩ := ZD2 BK1355))) | ((with_reducible refine gate_callee (f := 131) rfl ?_); refine goesL_ (some 29) rfl rfl Try.func131 (by kernel_rfl) rfl #[.string a0, .int .i64 a1, .int .i64 a2] rfl ZA ?_; (with_reducible refine (spec_l02Named.calls kj3 a0 a1 a2 t1359 false _ A13.out).mono ?_); rintro e w18 ⟨v1361, rfl, ho0, hb⟩; refine ⟨_, rfl, ?_⟩; have n0_ := Aside0.mk (Kd.R_lower ho0 (below_size ZB)); have n1_ := ZL BK1355 hb; have n2_ := Aside0.mk (below_step ZB hb); clear BK1355; clear HB; have HO1362 := n0_; have BK1355 := n1_; have HB := n2_; clear n0_ n1_ n2_; (try clear hb); (try clear hb2); (try clear hk); (try clear hi); (try clear ho0); obtain ⟨hcz19_0, hcz19_1, hfz19_0, hfz19_1⟩ := ZD2 BK1355))
      refine bodyPost_ret (results_ct rfl _ _ gb1355 59 #[.int .i64 0, .slice none 0 0] (0, 0) _ rfl (by refine ZS ?_; refine blk_put (cs := #[.int .i64 0, .slice none 0 0]) ?_ 1 _ rfl; refine ZS ?_; refine blk_put (cs := #[.int .i64 0, .slice none 0 0]) ?_ 0 _ rfl; refine ZS ?_; exact BK1355.out) Try.underlying59 rfl (by kernel_rfl)) rfl ?_
      exact ⟨_, by first | rfl | (simp [errW_none, errW_some] <;> rfl) | (simp [*, errW_none, errW_some] <;> rfl), by first | exact Kd.R_nil _ _ _ _ _ | exact Kd.N_nil _ _ _ _ _ | exact Kd.V_nil _ _ _ _ _ | exact Kd.Q_nil _ _ _ _ _ | exact Kd.S_nil _ _ _ _ _, ZB⟩
    ·replace c12 := Bool.eq_false_iff.mpr c12
     subst c12
     have H1 : (some (0, ([] : List Int), 4)) = some (r1, r2, r3) := by rw [if_neg (show ¬ (false = true) by decide)] at H; exact H
     clear H
     have H := H1
     clear H1
     simp only [Option.some.injEq, Prod.mk.injEq] at H
     obtain ⟨rfl, rfl, rfl⟩ := H
     go_wp2_with (first | ((with_reducible refine gate_callee (f := 130) rfl ?_); refine goesL_ (some 22) rfl rfl Try.func130 (by kernel_rfl) rfl #[.string a0] rfl ZA ?_; (with_reducible refine (spec_l02Known.calls a0 false _ A11.out).mono ?_); rintro e w' ⟨rfl, ⟨nd, rfl⟩⟩; refine ⟨_, rfl, ?_⟩; (try (rw [drewN_self wc]; generalize hq_ : World.drewN wc _ = wc; have n0_ : Aside0 (wc.heap[gb1355]? = some (.cells #[.int .i64 0, .slice none 0 0] 59 (0, 0))) := ⟨by rw [← hq_]; exact (ZK BK1355)⟩; have n1_ : Aside0 (Below w.heap.size w wc) := ⟨by rw [← hq_]; exact ZB⟩; clear BK1355 HB hq_; have BK1355 := n0_; have HB := n1_; clear n0_ n1_)); (try (obtain ⟨hcy1355_0, hcy1355_1, hfy1355_0, hfy1355_1⟩ := ZD2 BK1355)); obtain ⟨hcz20_0, hcz20_1, hfz20_0, hfz20_1⟩ := ZD2 BK1355))
     refine bodyPost_ret (results_ct rfl _ _ gb1355 59 #[.int .i64 0, .slice none 0 0] (0, 0) _ rfl (by refine ZS ?_; refine blk_put (cs := #[.int .i64 0, .slice none 0 0]) ?_ 1 _ rfl; refine ZS ?_; refine blk_put (cs := #[.int .i64 0, .slice none 0 0]) ?_ 0 _ rfl; refine ZS ?_; exact BK1355.out) Try.underlying59 rfl (by kernel_rfl)) rfl ?_
     exact ⟨_, by first | rfl | (simp [errW_none, errW_some] <;> rfl) | (simp [*, errW_none, errW_some] <;> rfl), by first | exact Kd.R_nil _ _ _ _ _ | exact Kd.N_nil _ _ _ _ _ | exact Kd.V_nil _ _ _ _ _ | exact Kd.Q_nil _ _ _ _ _ | exact Kd.S_nil _ _ _ _ _, ZB⟩

/-! ### spec_l10Known: function 132 -/
def spec_l10Known.f (a0 : ByteArray) : Option (Bool) := if a0.toList = ([104, 101, 114, 109, 105, 116, 101] : List UInt8) then (some true) else (if a0.toList = ([108, 97, 103, 117, 101, 114, 114, 101] : List UInt8) then (some true) else (if a0.toList = ([112, 111, 105, 115, 115, 111, 110] : List UInt8) then (some true) else (if a0.toList = ([99, 97, 116, 97, 108, 97, 110] : List UInt8) then (some true) else (if a0.toList = ([115, 101, 99, 111, 110, 100] : List UInt8) then (some true) else (some (a0.toList == ([108, 101, 103, 101, 110, 100, 114, 101] : List UInt8)))))))
set_option maxHeartbeats 8000000 in
set_option maxRecDepth 100000 in
theorem spec_l10Known.calls (a0 : ByteArray) (r : Bool) (w : World) (h : spec_l10Known.f a0 = some r) :
  Calls Try.prog 132 #[.string a0] w fun e w' => e = .returned (.bool r) ∧ Drawn0 w w' := by
 have H : (if a0.toList = ([104, 101, 114, 109, 105, 116, 101] : List UInt8) then (some true) else (if a0.toList = ([108, 97, 103, 117, 101, 114, 114, 101] : List UInt8) then (some true) else (if a0.toList = ([112, 111, 105, 115, 115, 111, 110] : List UInt8) then (some true) else (if a0.toList = ([99, 97, 116, 97, 108, 97, 110] : List UInt8) then (some true) else (if a0.toList = ([115, 101, 99, 111, 110, 100] : List UInt8) then (some true) else (some (a0.toList == ([108, 101, 103, 101, 110, 100, 114, 101] : List UInt8)))))))) = some r := h
 clear h
 by_cases c2 : a0.toList = ([104, 101, 114, 109, 105, 116, 101] : List UInt8)
 ·rw [if_pos c2] at H
  have c2b0 : (a0.toList == ([104, 101, 114, 109, 105, 116, 101] : List UInt8)) = true := beq_iff_eq.mpr c2
  have c2b1 : (a0.toList != ([104, 101, 114, 109, 105, 116, 101] : List UInt8)) = false := bne_eq_false_iff_eq.mpr c2
  clear c2
  obtain rfl := Option.some.inj H
  go_enter Try.func132, Try.ntmps132
  go_wp2
  go_ret
  exact ⟨by first | rfl | (simp; done) | (simp [*]; done), by repeat (first | exact Drawn0.refl _ | apply Drawn0.step)⟩
 ·rw [if_neg c2] at H
  have c2b0 : (a0.toList == ([104, 101, 114, 109, 105, 116, 101] : List UInt8)) = false := beq_eq_false_iff_ne.mpr c2
  have c2b1 : (a0.toList != ([104, 101, 114, 109, 105, 116, 101] : List UInt8)) = true := bne_iff_ne.mpr c2
  by_cases c3 : a0.toList = ([108, 97, 103, 117, 101, 114, 114, 101] : List UInt8)
  ·rw [if_pos c3] at H
   have c3b0 : (a0.toList == ([108, 97, 103, 117, 101, 114, 114, 101] : List UInt8)) = true := beq_iff_eq.mpr c3
   have c3b1 : (a0.toList != ([108, 97, 103, 117, 101, 114, 114, 101] : List UInt8)) = false := bne_eq_false_iff_eq.mpr c3
   clear c3
   obtain rfl := Option.some.inj H
   go_enter Try.func132, Try.ntmps132
   go_wp2
   go_ret
   exact ⟨by first | rfl | (simp; done) | (simp [*]; done), by repeat (first | exact Drawn0.refl _ | apply Drawn0.step)⟩
  ·rw [if_neg c3] at H
   have c3b0 : (a0.toList == ([108, 97, 103, 117, 101, 114, 114, 101] : List UInt8)) = false := beq_eq_false_iff_ne.mpr c3
   have c3b1 : (a0.toList != ([108, 97, 103, 117, 101, 114, 114, 101] : List UInt8)) = true := bne_iff_ne.mpr c3
   by_cases c4 : a0.toList = ([112, 111, 105, 115, 115, 111, 110] : List UInt8)
   ·rw [if_pos c4] at H
    have c4b0 : (a0.toList == ([112, 111, 105, 115, 115, 111, 110] : List UInt8)) = true := beq_iff_eq.mpr c4
    have c4b1 : (a0.toList != ([112, 111, 105, 115, 115, 111, 110] : List UInt8)) = false := bne_eq_false_iff_eq.mpr c4
    clear c4
    obtain rfl := Option.some.inj H
    go_enter Try.func132, Try.ntmps132
    go_wp2
    go_ret
    exact ⟨by first | rfl | (simp; done) | (simp [*]; done), by repeat (first | exact Drawn0.refl _ | apply Drawn0.step)⟩
   ·rw [if_neg c4] at H
    have c4b0 : (a0.toList == ([112, 111, 105, 115, 115, 111, 110] : List UInt8)) = false := beq_eq_false_iff_ne.mpr c4
    have c4b1 : (a0.toList != ([112, 111, 105, 115, 115, 111, 110] : List UInt8)) = true := bne_iff_ne.mpr c4
    by_cases c5 : a0.toList = ([99, 97, 116, 97, 108, 97, 110] : List UInt8)
    ·rw [if_pos c5] at H
     have c5b0 : (a0.toList == ([99, 97, 116, 97, 108, 97, 110] : List UInt8)) = true := beq_iff_eq.mpr c5
     have c5b1 : (a0.toList != ([99, 97, 116, 97, 108, 97, 110] : List UInt8)) = false := bne_eq_false_iff_eq.mpr c5
     clear c5
     obtain rfl := Option.some.inj H
     go_enter Try.func132, Try.ntmps132
     go_wp2
     go_ret
     exact ⟨by first | rfl | (simp; done) | (simp [*]; done), by repeat (first | exact Drawn0.refl _ | apply Drawn0.step)⟩
    ·rw [if_neg c5] at H
     have c5b0 : (a0.toList == ([99, 97, 116, 97, 108, 97, 110] : List UInt8)) = false := beq_eq_false_iff_ne.mpr c5
     have c5b1 : (a0.toList != ([99, 97, 116, 97, 108, 97, 110] : List UInt8)) = true := bne_iff_ne.mpr c5
     by_cases c6 : a0.toList = ([115, 101, 99, 111, 110, 100] : List UInt8)
     ·rw [if_pos c6] at H
      have c6b0 : (a0.toList == ([115, 101, 99, 111, 110, 100] : List UInt8)) = true := beq_iff_eq.mpr c6
      have c6b1 : (a0.toList != ([115, 101, 99, 111, 110, 100] : List UInt8)) = false := bne_eq_false_iff_eq.mpr c6
      clear c6
      obtain rfl := Option.some.inj H
      go_enter Try.func132, Try.ntmps132
      go_wp2
      go_ret
      exact ⟨by first | rfl | (simp; done) | (simp [*]; done), by repeat (first | exact Drawn0.refl _ | apply Drawn0.step)⟩
     ·rw [if_neg c6] at H
      have c6b0 : (a0.toList == ([115, 101, 99, 111, 110, 100] : List UInt8)) = false := beq_eq_false_iff_ne.mpr c6
      have c6b1 : (a0.toList != ([115, 101, 99, 111, 110, 100] : List UInt8)) = true := bne_iff_ne.mpr c6
      obtain rfl := Option.some.inj H
      go_enter Try.func132, Try.ntmps132
      go_wp2
      go_ret
      exact ⟨by first | rfl | (simp; done) | (simp [*]; done), by repeat (first | exact Drawn0.refl _ | apply Drawn0.step)⟩

/-! ### spec_l10Beta: function 133 -/
mutual
def spec_l10Beta.j0 : Nat → ByteArray → Int → Bool → Option (Int × Int)
 | 0, _, _, _ => none
 | k + 1, x0, x1, x6 => if x6 = true then (some (2, 1)) else (if x1 = 0 then (spec_l10Beta.j1 k x0 x1 true) else (spec_l10Beta.j1 k x0 x1 (x0.toList == ([99, 97, 116, 97, 108, 97, 110] : List UInt8))))
def spec_l10Beta.j1 : Nat → ByteArray → Int → Bool → Option (Int × Int)
 | 0, _, _, _ => none
 | k + 1, x0, x1, x13 => if x13 = true then (some (1, 1)) else (if x0.toList = ([108, 97, 103, 117, 101, 114, 114, 101] : List UInt8) then (some (wrap64 (x1 * x1), 1)) else (if x0.toList = ([115, 101, 99, 111, 110, 100] : List UInt8) then (some (1, 4)) else (if x0.toList = ([108, 101, 103, 101, 110, 100, 114, 101] : List UInt8) then (some (wrap64 (x1 * x1), wrap64 ((wrap64 ((wrap64 (4 * x1)) * x1)) - 1))) else (some (x1, 1)))))
end
def spec_l10Beta.f (k : Nat) (a0 : ByteArray) (a1 : Int) : Option (Int × Int) := if a1 = 0 then (spec_l10Beta.j0 k a0 a1 (a0.toList == ([108, 101, 103, 101, 110, 100, 114, 101] : List UInt8))) else (spec_l10Beta.j0 k a0 a1 false)
theorem spec_l10Beta.mono_l : ∀ k, (∀ y0 y1 y2, LeO (spec_l10Beta.j0 k y0 y1 y2) (spec_l10Beta.j0 (k + 1) y0 y1 y2)) ∧ (∀ y0 y1 y2, LeO (spec_l10Beta.j1 k y0 y1 y2) (spec_l10Beta.j1 (k + 1) y0 y1 y2))
 | 0 => ⟨fun _ _ _ r h => by simp [spec_l10Beta.j0] at h, fun _ _ _ r h => by simp [spec_l10Beta.j1] at h⟩
 | k + 1 => by
  obtain ⟨ih0, ih1⟩ := spec_l10Beta.mono_l k
  refine ⟨?_, ?_⟩
  ·intro y0 y1 y2
   unfold spec_l10Beta.j0
   repeat' first
   | (with_reducible exact ih0 _ _ _)
   | (with_reducible exact ih1 _ _ _)
   | (with_reducible exact LeO.refl _)
   | (with_reducible exact LeO.none _)
   | (with_reducible refine LeO.ite ?_ ?_)
   | (with_reducible refine LeO.bind ?_ (fun _ => ?_))
   | exact ih0 _ _ _
   | exact ih1 _ _ _
   | exact LeO.none _
   | refine LeO.ite ?_ ?_
   | refine LeO.bind ?_ (fun _ => ?_)
  ·intro y0 y1 y2
   unfold spec_l10Beta.j1
   repeat' first
   | (with_reducible exact ih0 _ _ _)
   | (with_reducible exact ih1 _ _ _)
   | (with_reducible exact LeO.refl _)
   | (with_reducible exact LeO.none _)
   | (with_reducible refine LeO.ite ?_ ?_)
   | (with_reducible refine LeO.bind ?_ (fun _ => ?_))
   | exact ih0 _ _ _
   | exact ih1 _ _ _
   | exact LeO.none _
   | refine LeO.ite ?_ ?_
   | refine LeO.bind ?_ (fun _ => ?_)
theorem spec_l10Beta.mono : ∀ a0 a1 k, LeO (spec_l10Beta.f k a0 a1) (spec_l10Beta.f (k + 1) a0 a1) := by
 intro a0 a1 k
 obtain ⟨ih0, ih1⟩ := spec_l10Beta.mono_l k
 unfold spec_l10Beta.f
 repeat' first
   | (with_reducible exact ih0 _ _ _)
   | (with_reducible exact ih1 _ _ _)
   | (with_reducible exact LeO.refl _)
   | (with_reducible exact LeO.none _)
   | (with_reducible refine LeO.ite ?_ ?_)
   | (with_reducible refine LeO.bind ?_ (fun _ => ?_))
   | exact ih0 _ _ _
   | exact ih1 _ _ _
   | exact LeO.none _
   | refine LeO.ite ?_ ?_
   | refine LeO.bind ?_ (fun _ => ?_)
set_option maxHeartbeats 8000000 in
set_option maxRecDepth 100000 in
theorem spec_l10Beta.calls (k : Nat) (a0 : ByteArray) (a1 : Int) (r1 : Int) (r2 : Int) (w : World) (h : spec_l10Beta.f k a0 a1 = some (r1, r2)) :
  Calls Try.prog 133 #[.string a0, .int .i64 a1] w fun e w' => e = .returned (.tuple #[.int .i64 r1, .int .i64 r2]) ∧ Drawn0 w w' := by
 have H : (if a1 = 0 then (spec_l10Beta.j0 k a0 a1 (a0.toList == ([108, 101, 103, 101, 110, 100, 114, 101] : List UInt8))) else (spec_l10Beta.j0 k a0 a1 false)) = some (r1, r2) := h
 clear h
 have HC3 := Aside0.mk H
 clear H
 go_enter Try.func133, Try.ntmps133
 go_upto_region 1 with (fail)
 go_cut [6] (fun v6 wc => ∃ (kq : Nat) (x6_2 : Bool), v6 = .bool x6_2 ∧ Aside0 (spec_l10Beta.j0 kq a0 a1 x6_2 = some (r1, r2)) ∧ Aside0 (kq ≤ k) ∧ Drawn0 w wc)
 case first =>
  have H := HC3.out
  clear HC3
  by_cases c4 : a1 = 0
  ·rw [if_pos c4] at H
   have c4b0 : (a1 == 0) = true := beq_iff_eq.mpr c4
   have c4b1 : (a1 != 0) = false := bne_eq_false_iff_eq.mpr c4
   clear c4
   (first | rw [c4b0] | (simp only [i64_w, i32_w]; rw [c4b0]) | skip)
   have H' := Aside0.mk H
   clear H
   go_wp2
   go_meet
   case rel => exact ⟨_, ((a0.toList == ([108, 101, 103, 101, 110, 100, 114, 101] : List UInt8))), (by first | rfl | (simp; done) | (simp [*]; done)), H', ⟨by first | omega | exact Nat.le_refl _⟩, by repeat (first | exact Drawn0.refl _ | apply Drawn0.step)⟩
  ·rw [if_neg c4] at H
   have c4b0 : (a1 == 0) = false := beq_eq_false_iff_ne.mpr c4
   have c4b1 : (a1 != 0) = true := bne_iff_ne.mpr c4
   (first | rw [c4b0] | (simp only [i64_w, i32_w]; rw [c4b0]) | skip)
   have H' := Aside0.mk H
   clear H
   go_wp2
   go_meet
   case rel => exact ⟨_, (false), (by first | rfl | (simp; done) | (simp [*]; done)), H', ⟨by first | omega | exact Nat.le_refl _⟩, by repeat (first | exact Drawn0.refl _ | apply Drawn0.step)⟩
 case rest =>
  clear HC3
  try clear c1
  try clear p2
  try clear c4
  try clear c4b0
  try clear c4b1
  obtain ⟨kq, x6_2, rfl, HA, HJ2, ⟨mc2, rfl⟩⟩ := hcut
  cases kq with
  | zero => exact absurd HA.out (by simp [spec_l10Beta.j0])
  | succ kj2 =>
   have H := HA.out
   clear HA
   simp only [spec_l10Beta.j0] at H
   by_cases c5 : x6_2 = true
   ·subst c5
    have H1 : (some (2, 1)) = some (r1, r2) := by rw [if_pos rfl] at H; exact H
    clear H
    have H := H1
    clear H1
    simp only [Option.some.injEq, Prod.mk.injEq] at H
    obtain ⟨rfl, rfl⟩ := H
    go_wp2
    go_ret2
    exact ⟨by first | rfl | (simp; done) | (simp [*]; done), by repeat (first | exact Drawn0.refl _ | apply Drawn0.step)⟩
   ·replace c5 := Bool.eq_false_iff.mpr c5
    subst c5
    have H1 : (if a1 = 0 then (spec_l10Beta.j1 kj2 a0 a1 true) else (spec_l10Beta.j1 kj2 a0 a1 (a0.toList == ([99, 97, 116, 97, 108, 97, 110] : List UInt8)))) = some (r1, r2) := by rw [if_neg (show ¬ (false = true) by decide)] at H; exact H
    clear H
    have H := H1
    clear H1
    have HC6 := Aside0.mk H
    clear H
    go_upto_region 3 with (fail)
    go_cut [13] (fun v13 wc => ∃ (kq : Nat) (x13_5 : Bool), v13 = .bool x13_5 ∧ Aside0 (spec_l10Beta.j1 kq a0 a1 x13_5 = some (r1, r2)) ∧ Aside0 (kq ≤ kj2) ∧ Drawn0 w wc)
    case first =>
     have H := HC6.out
     clear HC6
     by_cases c7 : a1 = 0
     ·rw [if_pos c7] at H
      have c7b0 : (a1 == 0) = true := beq_iff_eq.mpr c7
      have c7b1 : (a1 != 0) = false := bne_eq_false_iff_eq.mpr c7
      clear c7
      (first | rw [c7b0] | (simp only [i64_w, i32_w]; rw [c7b0]) | skip)
      have H' := Aside0.mk H
      clear H
      go_wp2
      go_meet
      case rel => exact ⟨_, (true), (by first | rfl | (simp; done) | (simp [*]; done)), H', ⟨by have := HJ2.out; first | omega | exact Nat.le_refl _⟩, by repeat (first | exact Drawn0.refl _ | apply Drawn0.step)⟩
     ·rw [if_neg c7] at H
      have c7b0 : (a1 == 0) = false := beq_eq_false_iff_ne.mpr c7
      have c7b1 : (a1 != 0) = true := bne_iff_ne.mpr c7
      (first | rw [c7b0] | (simp only [i64_w, i32_w]; rw [c7b0]) | skip)
      have H' := Aside0.mk H
      clear H
      go_wp2
      go_meet
      case rel => exact ⟨_, ((a0.toList == ([99, 97, 116, 97, 108, 97, 110] : List UInt8))), (by first | rfl | (simp; done) | (simp [*]; done)), H', ⟨by have := HJ2.out; first | omega | exact Nat.le_refl _⟩, by repeat (first | exact Drawn0.refl _ | apply Drawn0.step)⟩
    case rest =>
     clear HC6
     try clear c1
     try clear c2
     try clear p2
     try clear c4
     try clear c4b0
     try clear c4b1
     try clear c5
     try clear c7
     try clear c7b0
     try clear c7b1
     try clear p2
     obtain ⟨kq, x13_5, rfl, HA, HJ5, ⟨mc5, rfl⟩⟩ := hcut
     cases kq with
     | zero => exact absurd HA.out (by simp [spec_l10Beta.j1])
     | succ kj5 =>
      have H := HA.out
      clear HA
      simp only [spec_l10Beta.j1] at H
      by_cases c8 : x13_5 = true
      ·subst c8
       have H1 : (some (1, 1)) = some (r1, r2) := by rw [if_pos rfl] at H; exact H
       clear H
       have H := H1
       clear H1
       simp only [Option.some.injEq, Prod.mk.injEq] at H
       obtain ⟨rfl, rfl⟩ := H
       go_wp2
       go_ret2
       exact ⟨by first | rfl | (simp; done) | (simp [*]; done), by repeat (first | exact Drawn0.refl _ | apply Drawn0.step)⟩
      ·replace c8 := Bool.eq_false_iff.mpr c8
       subst c8
       have H1 : (if a0.toList = ([108, 97, 103, 117, 101, 114, 114, 101] : List UInt8) then (some (wrap64 (a1 * a1), 1)) else (if a0.toList = ([115, 101, 99, 111, 110, 100] : List UInt8) then (some (1, 4)) else (if a0.toList = ([108, 101, 103, 101, 110, 100, 114, 101] : List UInt8) then (some (wrap64 (a1 * a1), wrap64 ((wrap64 ((wrap64 (4 * a1)) * a1)) - 1))) else (some (a1, 1))))) = some (r1, r2) := by rw [if_neg (show ¬ (false = true) by decide)] at H; exact H
       clear H
       have H := H1
       clear H1
       by_cases c9 : a0.toList = ([108, 97, 103, 117, 101, 114, 114, 101] : List UInt8)
       ·rw [if_pos c9] at H
        have c9b0 : (a0.toList == ([108, 97, 103, 117, 101, 114, 114, 101] : List UInt8)) = true := beq_iff_eq.mpr c9
        have c9b1 : (a0.toList != ([108, 97, 103, 117, 101, 114, 114, 101] : List UInt8)) = false := bne_eq_false_iff_eq.mpr c9
        clear c9
        simp only [Option.some.injEq, Prod.mk.injEq] at H
        obtain ⟨rfl, rfl⟩ := H
        go_wp2
        go_ret2
        exact ⟨by first | rfl | (simp; done) | (simp [*]; done), by repeat (first | exact Drawn0.refl _ | apply Drawn0.step)⟩
       ·rw [if_neg c9] at H
        have c9b0 : (a0.toList == ([108, 97, 103, 117, 101, 114, 114, 101] : List UInt8)) = false := beq_eq_false_iff_ne.mpr c9
        have c9b1 : (a0.toList != ([108, 97, 103, 117, 101, 114, 114, 101] : List UInt8)) = true := bne_iff_ne.mpr c9
        by_cases c10 : a0.toList = ([115, 101, 99, 111, 110, 100] : List UInt8)
        ·rw [if_pos c10] at H
         have c10b0 : (a0.toList == ([115, 101, 99, 111, 110, 100] : List UInt8)) = true := beq_iff_eq.mpr c10
         have c10b1 : (a0.toList != ([115, 101, 99, 111, 110, 100] : List UInt8)) = false := bne_eq_false_iff_eq.mpr c10
         clear c10
         simp only [Option.some.injEq, Prod.mk.injEq] at H
         obtain ⟨rfl, rfl⟩ := H
         go_wp2
         go_ret2
         exact ⟨by first | rfl | (simp; done) | (simp [*]; done), by repeat (first | exact Drawn0.refl _ | apply Drawn0.step)⟩
        ·rw [if_neg c10] at H
         have c10b0 : (a0.toList == ([115, 101, 99, 111, 110, 100] : List UInt8)) = false := beq_eq_false_iff_ne.mpr c10
         have c10b1 : (a0.toList != ([115, 101, 99, 111, 110, 100] : List UInt8)) = true := bne_iff_ne.mpr c10
         by_cases c11 : a0.toList = ([108, 101, 103, 101, 110, 100, 114, 101] : List UInt8)
         ·rw [if_pos c11] at H
          have c11b0 : (a0.toList == ([108, 101, 103, 101, 110, 100, 114, 101] : List UInt8)) = true := beq_iff_eq.mpr c11
          have c11b1 : (a0.toList != ([108, 101, 103, 101, 110, 100, 114, 101] : List UInt8)) = false := bne_eq_false_iff_eq.mpr c11
          clear c11
          simp only [Option.some.injEq, Prod.mk.injEq] at H
          obtain ⟨rfl, rfl⟩ := H
          go_wp2
          go_ret2
          exact ⟨by first | rfl | (simp; done) | (simp [*]; done), by repeat (first | exact Drawn0.refl _ | apply Drawn0.step)⟩
         ·rw [if_neg c11] at H
          have c11b0 : (a0.toList == ([108, 101, 103, 101, 110, 100, 114, 101] : List UInt8)) = false := beq_eq_false_iff_ne.mpr c11
          have c11b1 : (a0.toList != ([108, 101, 103, 101, 110, 100, 114, 101] : List UInt8)) = true := bne_iff_ne.mpr c11
          simp only [Option.some.injEq, Prod.mk.injEq] at H
          obtain ⟨rfl, rfl⟩ := H
          go_wp2
          go_ret2
          exact ⟨by first | rfl | (simp; done) | (simp [*]; done), by repeat (first | exact Drawn0.refl _ | apply Drawn0.step)⟩

/-! ### spec_l10Alpha: function 134 -/
def spec_l10Alpha.f (a0 : ByteArray) (a1 : Int) : Option (Int) := if a0.toList = ([108, 97, 103, 117, 101, 114, 114, 101] : List UInt8) then (some (wrap64 ((wrap64 (2 * a1)) + 1))) else (if a0.toList = ([112, 111, 105, 115, 115, 111, 110] : List UInt8) then (some (wrap64 (a1 + 1))) else (if a0.toList = ([99, 97, 116, 97, 108, 97, 110] : List UInt8) then (if a1 = 0 then (some 1) else (some 2)) else (some 0)))
set_option maxHeartbeats 8000000 in
set_option maxRecDepth 100000 in
theorem spec_l10Alpha.calls (a0 : ByteArray) (a1 : Int) (r : Int) (w : World) (h : spec_l10Alpha.f a0 a1 = some r) :
  Calls Try.prog 134 #[.string a0, .int .i64 a1] w fun e w' => e = .returned (.int .i64 r) ∧ Drawn0 w w' := by
 have H : (if a0.toList = ([108, 97, 103, 117, 101, 114, 114, 101] : List UInt8) then (some (wrap64 ((wrap64 (2 * a1)) + 1))) else (if a0.toList = ([112, 111, 105, 115, 115, 111, 110] : List UInt8) then (some (wrap64 (a1 + 1))) else (if a0.toList = ([99, 97, 116, 97, 108, 97, 110] : List UInt8) then (if a1 = 0 then (some 1) else (some 2)) else (some 0)))) = some r := h
 clear h
 by_cases c3 : a0.toList = ([108, 97, 103, 117, 101, 114, 114, 101] : List UInt8)
 ·rw [if_pos c3] at H
  have c3b0 : (a0.toList == ([108, 97, 103, 117, 101, 114, 114, 101] : List UInt8)) = true := beq_iff_eq.mpr c3
  have c3b1 : (a0.toList != ([108, 97, 103, 117, 101, 114, 114, 101] : List UInt8)) = false := bne_eq_false_iff_eq.mpr c3
  clear c3
  obtain rfl := Option.some.inj H
  go_enter Try.func134, Try.ntmps134
  go_wp2
  go_ret
  exact ⟨by first | rfl | (simp; done) | (simp [*]; done), by repeat (first | exact Drawn0.refl _ | apply Drawn0.step)⟩
 ·rw [if_neg c3] at H
  have c3b0 : (a0.toList == ([108, 97, 103, 117, 101, 114, 114, 101] : List UInt8)) = false := beq_eq_false_iff_ne.mpr c3
  have c3b1 : (a0.toList != ([108, 97, 103, 117, 101, 114, 114, 101] : List UInt8)) = true := bne_iff_ne.mpr c3
  by_cases c4 : a0.toList = ([112, 111, 105, 115, 115, 111, 110] : List UInt8)
  ·rw [if_pos c4] at H
   have c4b0 : (a0.toList == ([112, 111, 105, 115, 115, 111, 110] : List UInt8)) = true := beq_iff_eq.mpr c4
   have c4b1 : (a0.toList != ([112, 111, 105, 115, 115, 111, 110] : List UInt8)) = false := bne_eq_false_iff_eq.mpr c4
   clear c4
   obtain rfl := Option.some.inj H
   go_enter Try.func134, Try.ntmps134
   go_wp2
   go_ret
   exact ⟨by first | rfl | (simp; done) | (simp [*]; done), by repeat (first | exact Drawn0.refl _ | apply Drawn0.step)⟩
  ·rw [if_neg c4] at H
   have c4b0 : (a0.toList == ([112, 111, 105, 115, 115, 111, 110] : List UInt8)) = false := beq_eq_false_iff_ne.mpr c4
   have c4b1 : (a0.toList != ([112, 111, 105, 115, 115, 111, 110] : List UInt8)) = true := bne_iff_ne.mpr c4
   by_cases c5 : a0.toList = ([99, 97, 116, 97, 108, 97, 110] : List UInt8)
   ·rw [if_pos c5] at H
    have c5b0 : (a0.toList == ([99, 97, 116, 97, 108, 97, 110] : List UInt8)) = true := beq_iff_eq.mpr c5
    have c5b1 : (a0.toList != ([99, 97, 116, 97, 108, 97, 110] : List UInt8)) = false := bne_eq_false_iff_eq.mpr c5
    clear c5
    by_cases c6 : a1 = 0
    ·rw [if_pos c6] at H
     have c6b0 : (a1 == 0) = true := beq_iff_eq.mpr c6
     have c6b1 : (a1 != 0) = false := bne_eq_false_iff_eq.mpr c6
     clear c6
     obtain rfl := Option.some.inj H
     go_enter Try.func134, Try.ntmps134
     go_wp2
     go_ret
     exact ⟨by first | rfl | (simp; done) | (simp [*]; done), by repeat (first | exact Drawn0.refl _ | apply Drawn0.step)⟩
    ·rw [if_neg c6] at H
     have c6b0 : (a1 == 0) = false := beq_eq_false_iff_ne.mpr c6
     have c6b1 : (a1 != 0) = true := bne_iff_ne.mpr c6
     obtain rfl := Option.some.inj H
     go_enter Try.func134, Try.ntmps134
     go_wp2
     go_ret
     exact ⟨by first | rfl | (simp; done) | (simp [*]; done), by repeat (first | exact Drawn0.refl _ | apply Drawn0.step)⟩
   ·rw [if_neg c5] at H
    have c5b0 : (a0.toList == ([99, 97, 116, 97, 108, 97, 110] : List UInt8)) = false := beq_eq_false_iff_ne.mpr c5
    have c5b1 : (a0.toList != ([99, 97, 116, 97, 108, 97, 110] : List UInt8)) = true := bne_iff_ne.mpr c5
    obtain rfl := Option.some.inj H
    go_enter Try.func134, Try.ntmps134
    go_wp2
    go_ret
    exact ⟨by first | rfl | (simp; done) | (simp [*]; done), by repeat (first | exact Drawn0.refl _ | apply Drawn0.step)⟩

end Go.Proofs.Ytaclapojgdekpaa.X
