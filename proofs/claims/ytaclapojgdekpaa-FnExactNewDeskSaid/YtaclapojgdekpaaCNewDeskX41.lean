/- Contracts of functions that the law reaches, printed by a program of this session; Lean checks them. -/
import Derived.Test.YtaclapojgdekpaaCNewDeskX0
import Derived.Test.YtaclapojgdekpaaCNewDeskX40
import Derived.Test.YtaclapojgdekpaaCNewDeskXZ
namespace Go.Proofs.Ytaclapojgdekpaa.X
open Go.RowKit Go.Proofs.YtaclapojgdekpaaW.PrintWords Go.Proofs.YtaclapojgdekpaaW.PrintLast Go.Proofs.YtaclapojgdekpaaW.PrintMore
attribute [local go_sem] max2_int min2_int max_two min_two max_three min_three max_four min_four   -- for this text's walks alone
set_option linter.unusedVariables false
set_option linter.unusedSimpArgs false

/-! ### spec_l11New: function 90 -/
def spec_l11New.f (k : Nat)  : Option (Int × List Int × Int × List Int × List Int × List Int) := (spec_l11For.f k 101).bind fun bt1404 => (some (bt1404.1, bt1404.2.1, bt1404.2.2.1, bt1404.2.2.2.1, bt1404.2.2.2.2.1, bt1404.2.2.2.2.2.1))
theorem spec_l11New.mono : ∀ k, LeO (spec_l11New.f k ) (spec_l11New.f (k + 1) ) := by
 intro  k
 unfold spec_l11New.f
 repeat' first
   | (with_reducible exact spec_l11For.mono _ _)
   | (with_reducible exact LeO.refl _)
   | (with_reducible exact LeO.none _)
   | (with_reducible refine LeO.ite ?_ ?_)
   | (with_reducible refine LeO.bind ?_ (fun _ => ?_))
   | exact spec_l11For.mono _ _
   | exact LeO.none _
   | refine LeO.ite ?_ ?_
   | refine LeO.bind ?_ (fun _ => ?_)
set_option maxHeartbeats 8000000 in
set_option maxRecDepth 100000 in
theorem spec_l11New.calls (k : Nat)  (r1 : Int) (r2 : List Int) (r3 : Int) (r4 : List Int) (r5 : List Int) (r6 : List Int) (w : World) (h : spec_l11New.f k  = some (r1, r2, r3, r4, r5, r6)) :
  Calls Try.prog 90 #[] w fun e w' => ∃ v1_ v3_ v4_ v5_ : Value, e = .returned (.agg #[.int .i64 r1, v1_, .int .i64 r3, v3_, v4_, v5_]) ∧ Kd.R (Kd.int .i64) 2 w' w.heap.size (fun k_ => some k_ ≠ (v3_ : Value).ownBlock ∧ some k_ ≠ (v4_ : Value).ownBlock ∧ some k_ ≠ (v5_ : Value).ownBlock) v1_ r2 ∧ Kd.R (Kd.int .i64) 2 w' w.heap.size (fun k_ => some k_ ≠ (v1_ : Value).ownBlock ∧ some k_ ≠ (v4_ : Value).ownBlock ∧ some k_ ≠ (v5_ : Value).ownBlock) v3_ r4 ∧ Kd.R (Kd.int .i64) 2 w' w.heap.size (fun k_ => some k_ ≠ (v1_ : Value).ownBlock ∧ some k_ ≠ (v3_ : Value).ownBlock ∧ some k_ ≠ (v5_ : Value).ownBlock) v4_ r5 ∧ Kd.R (Kd.int .i64) 2 w' w.heap.size (fun k_ => some k_ ≠ (v1_ : Value).ownBlock ∧ some k_ ≠ (v3_ : Value).ownBlock ∧ some k_ ≠ (v4_ : Value).ownBlock) v5_ r6 ∧ Below w.heap.size w w' := by
 have hu61 := Try.underlying61
 have HB := Aside0.mk (Below.refl w.heap.size w)
 have H : ((spec_l11For.f k 101).bind fun bt1404 => (some (bt1404.1, bt1404.2.1, bt1404.2.2.1, bt1404.2.2.2.1, bt1404.2.2.2.2.1, bt1404.2.2.2.2.2.1))) = some (r1, r2, r3, r4, r5, r6) := h
 clear h
 replace H := Option.bind_eq_some_iff.mp H
 obtain ⟨⟨t1404, t1405, t1408, t1409, t1412, t1415, t1418⟩, A10, H⟩ := H
 replace H : (some (t1404, t1405, t1408, t1409, t1412, t1415)) = some (r1, r2, r3, r4, r5, r6) := H
 have A1 := Aside0.mk A10
 clear A10
 simp only [Option.some.injEq, Prod.mk.injEq] at H
 obtain ⟨rfl, rfl, rfl, rfl, rfl, rfl⟩ := H
 go_enter Try.func90, Try.ntmps90
 go_wp2_with (first | ((with_reducible refine gate_dst (N := 0) rfl ?_); refine box_event ?hg (N := 0) ?hd (cs := #[.int .i64 0, .slice none 0 0, .int .i64 0, .slice none 0 0, .slice none 0 0, .slice none 0 0]) (t := 61) ?hr ?_; (case hd => rfl); (case hg => rfl); (case hr => first | (go_simp; done) | (go_simp; rfl)); intro gb1403 hg w2 hbox hb; have n0_ := Aside0.mk (below_step ZB hb); have n1_ := Aside0.mk (hbox); have n2_ := Aside0.mk ((ZG hg : w.heap.size ≤ gb1403)); have n3_ := Aside0.mk ((ZG hg : w.heap.size ≤ gb1403)); clear HB; have HB := n0_; have BK1403 := n1_; have GW1403 := n2_; have GE1403 := n3_; clear n0_ n1_ n2_ n3_; clear hb hbox hg) | ((with_reducible refine gate_callee (f := 115) rfl ?_); refine goesL_ (some 4) rfl rfl Try.func115 (by kernel_rfl) rfl #[.int .i64 101] rfl ZA ?_; (with_reducible refine (spec_l11For.calls k 101 t1404 t1405 t1408 t1409 t1412 t1415 t1418 _ A1.out).mono ?_); rintro e w3 ⟨v1406, v1410, v1413, v1416, rfl, ho0, ho1, ho2, ho3, hb⟩; refine ⟨_, rfl, ?_⟩; have n0_ := Aside0.mk (Kd.R_lower ho0 (below_size ZB)); have n1_ := Aside0.mk (Kd.R_lower ho1 (below_size ZB)); have n2_ := Aside0.mk (Kd.R_lower ho2 (below_size ZB)); have n3_ := Aside0.mk (Kd.R_lower ho3 (below_size ZB)); have n4_ := ZL BK1403 hb; have n5_ := Aside0.mk (below_step ZB hb); clear BK1403; clear HB; have HO1407 := n0_; have HO1411 := n1_; have HO1414 := n2_; have HO1417 := n3_; have BK1403 := n4_; have HB := n5_; clear n0_ n1_ n2_ n3_ n4_ n5_; (try clear hb); (try clear hb2); (try clear hk); (try clear hi); (try clear ho0); (try clear ho1); (try clear ho2); (try clear ho3)) | ((with_reducible refine gate_dst (N := 1) rfl ?_); refine box_event ?hg (N := 1) ?hd (cs := #[.int .i64 0, .slice none 0 0, .int .i64 0, .slice none 0 0, .slice none 0 0, .slice none 0 0]) (t := 61) ?hr ?_; (case hd => rfl); (case hg => rfl); (case hr => first | (go_simp; done) | (go_simp; rfl)); intro gb1419 hg w4 hbox hb; have n0_ := Aside0.mk (Kd.R_below (ZR HO1407) hb); have n1_ := Aside0.mk (Kd.R_below (ZR HO1411) hb); have n2_ := Aside0.mk (Kd.R_below (ZR HO1414) hb); have n3_ := Aside0.mk (Kd.R_below (ZR HO1417) hb); have n4_ := ZL BK1403 hb; have n5_ := Aside0.mk (below_step ZB hb); have n6_ := Aside0.mk (hbox); have n7_ := Aside0.mk ((ZG hg : w.heap.size ≤ gb1419)); have n8_ := Aside0.mk ((ZG hg : w.heap.size ≤ gb1419)); have n9_ := Aside0.mk ((ZN hg BK1403 : gb1403 ≠ gb1419)); have n10_ := Aside0.mk ((ZM hg BK1403 : gb1419 ≠ gb1403)); clear HO1407; clear HO1411; clear HO1414; clear HO1417; clear BK1403; clear HB; have HO1407 := n0_; have HO1411 := n1_; have HO1414 := n2_; have HO1417 := n3_; have BK1403 := n4_; have HB := n5_; have BK1419 := n6_; have GW1419 := n7_; have GE1419 := n8_; have NB1403_1419 := n9_; have NB1419_1403 := n10_; clear n0_ n1_ n2_ n3_ n4_ n5_ n6_ n7_ n8_ n9_ n10_; clear hb hbox hg; have hnb5 := NB1419_1403.out; have hnc5 := NB1403_1419.out; obtain ⟨hcz6_0, hcz6_1, hcz6_2, hcz6_3, hcz6_4, hcz6_5, hfz6_0, hfz6_1, hfz6_2, hfz6_3, hfz6_4, hfz6_5⟩ := ZD6 BK1419; obtain ⟨Ao7, co7, eo7⟩ := Kd.R_slice HO1407.out; subst eo7; obtain ⟨Ao8, co8, eo8⟩ := Kd.R_slice HO1411.out; subst eo8; obtain ⟨Ao9, co9, eo9⟩ := Kd.R_slice HO1414.out; subst eo9; obtain ⟨Ao10, co10, eo10⟩ := Kd.R_slice HO1417.out; subst eo10; obtain ⟨hcz11_0, hcz11_1, hcz11_2, hcz11_3, hcz11_4, hcz11_5, hfz11_0, hfz11_1, hfz11_2, hfz11_3, hfz11_4, hfz11_5⟩ := ZD6 BK1403))
 refine bodyPost_ret (results_cell_row rfl _ _ gb1403 61 #[.int .i64 t1404, .slice Ao7 t1405.length co7, .int .i64 t1408, .slice Ao8 t1409.length co8, .slice Ao9 t1412.length co9, .slice Ao10 t1415.length co10] (0, 0) _ rfl (by refine ZS ?_; refine blk_put (cs := #[.int .i64 t1404, .slice Ao7 t1405.length co7, .int .i64 t1408, .slice Ao8 t1409.length co8, .slice Ao9 t1412.length co9, .slice none 0 0]) ?_ 5 _ rfl; refine ZS ?_; refine blk_put (cs := #[.int .i64 t1404, .slice Ao7 t1405.length co7, .int .i64 t1408, .slice Ao8 t1409.length co8, .slice none 0 0, .slice none 0 0]) ?_ 4 _ rfl; refine ZS ?_; refine blk_put (cs := #[.int .i64 t1404, .slice Ao7 t1405.length co7, .int .i64 t1408, .slice none 0 0, .slice none 0 0, .slice none 0 0]) ?_ 3 _ rfl; refine ZS ?_; refine blk_put (cs := #[.int .i64 t1404, .slice Ao7 t1405.length co7, .int .i64 0, .slice none 0 0, .slice none 0 0, .slice none 0 0]) ?_ 2 _ rfl; refine ZS ?_; refine blk_put (cs := #[.int .i64 t1404, .slice none 0 0, .int .i64 0, .slice none 0 0, .slice none 0 0, .slice none 0 0]) ?_ 1 _ rfl; refine ZS ?_; refine blk_put (cs := #[.int .i64 0, .slice none 0 0, .int .i64 0, .slice none 0 0, .slice none 0 0, .slice none 0 0]) ?_ 0 _ rfl; refine ZS ?_; refine blk_far ?_ NB1403_1419.out _; refine ZS ?_; refine blk_far ?_ NB1403_1419.out _; refine ZS ?_; refine blk_far ?_ NB1403_1419.out _; refine ZS ?_; refine blk_far ?_ NB1403_1419.out _; refine ZS ?_; refine blk_far ?_ NB1403_1419.out _; refine ZS ?_; refine blk_far ?_ NB1403_1419.out _; refine ZS ?_; exact BK1403.out) Try.underlying61 rfl (by kernel_rfl)) rfl ?_
 exact ⟨_, _, _, _, by first | rfl | (simp [errW_none, errW_some] <;> rfl) | (simp [*, errW_none, errW_some] <;> rfl), by refine ZQ ?_; exact Kd.R_mono (Kd.R_far (p := ⟨gb1403, 5, none⟩) (Kd.R_far (p := ⟨gb1403, 4, none⟩) (Kd.R_far (p := ⟨gb1403, 3, none⟩) (Kd.R_far (p := ⟨gb1403, 2, none⟩) (Kd.R_far (p := ⟨gb1403, 1, none⟩) (Kd.R_far (p := ⟨gb1403, 0, none⟩) (Kd.R_far (p := ⟨gb1419, 5, none⟩) (Kd.R_far (p := ⟨gb1419, 4, none⟩) (Kd.R_far (p := ⟨gb1419, 3, none⟩) (Kd.R_far (p := ⟨gb1419, 2, none⟩) (Kd.R_far (p := ⟨gb1419, 1, none⟩) (Kd.R_far (p := ⟨gb1419, 0, none⟩) (Kd.R_types (Kd.R_types HO1407.out BK1419.out (by decide)) BK1403.out (by decide)) (fun _ hk => hk.1.2) (.int .i64 t1404)) (fun _ hk => hk.1.2) (.slice Ao7 t1405.length co7)) (fun _ hk => hk.1.2) (.int .i64 t1408)) (fun _ hk => hk.1.2) (.slice Ao8 t1409.length co8)) (fun _ hk => hk.1.2) (.slice Ao9 t1412.length co9)) (fun _ hk => hk.1.2) (.slice Ao10 t1415.length co10)) (fun _ hk => hk.2) (.int .i64 t1404)) (fun _ hk => hk.2) (.slice Ao7 t1405.length co7)) (fun _ hk => hk.2) (.int .i64 t1408)) (fun _ hk => hk.2) (.slice Ao8 t1409.length co8)) (fun _ hk => hk.2) (.slice Ao9 t1412.length co9)) (fun _ hk => hk.2) (.slice Ao10 t1415.length co10)) (fun _ hk => (And.intro (hk.1.1.1) ((And.intro (hk.1.1.2.1) (hk.1.1.2.2))))), by refine ZQ ?_; exact Kd.R_mono (Kd.R_far (p := ⟨gb1403, 5, none⟩) (Kd.R_far (p := ⟨gb1403, 4, none⟩) (Kd.R_far (p := ⟨gb1403, 3, none⟩) (Kd.R_far (p := ⟨gb1403, 2, none⟩) (Kd.R_far (p := ⟨gb1403, 1, none⟩) (Kd.R_far (p := ⟨gb1403, 0, none⟩) (Kd.R_far (p := ⟨gb1419, 5, none⟩) (Kd.R_far (p := ⟨gb1419, 4, none⟩) (Kd.R_far (p := ⟨gb1419, 3, none⟩) (Kd.R_far (p := ⟨gb1419, 2, none⟩) (Kd.R_far (p := ⟨gb1419, 1, none⟩) (Kd.R_far (p := ⟨gb1419, 0, none⟩) (Kd.R_types (Kd.R_types HO1411.out BK1419.out (by decide)) BK1403.out (by decide)) (fun _ hk => hk.1.2) (.int .i64 t1404)) (fun _ hk => hk.1.2) (.slice Ao7 t1405.length co7)) (fun _ hk => hk.1.2) (.int .i64 t1408)) (fun _ hk => hk.1.2) (.slice Ao8 t1409.length co8)) (fun _ hk => hk.1.2) (.slice Ao9 t1412.length co9)) (fun _ hk => hk.1.2) (.slice Ao10 t1415.length co10)) (fun _ hk => hk.2) (.int .i64 t1404)) (fun _ hk => hk.2) (.slice Ao7 t1405.length co7)) (fun _ hk => hk.2) (.int .i64 t1408)) (fun _ hk => hk.2) (.slice Ao8 t1409.length co8)) (fun _ hk => hk.2) (.slice Ao9 t1412.length co9)) (fun _ hk => hk.2) (.slice Ao10 t1415.length co10)) (fun _ hk => (And.intro (hk.1.1.1) ((And.intro (hk.1.1.2.1) (hk.1.1.2.2))))), by refine ZQ ?_; exact Kd.R_mono (Kd.R_far (p := ⟨gb1403, 5, none⟩) (Kd.R_far (p := ⟨gb1403, 4, none⟩) (Kd.R_far (p := ⟨gb1403, 3, none⟩) (Kd.R_far (p := ⟨gb1403, 2, none⟩) (Kd.R_far (p := ⟨gb1403, 1, none⟩) (Kd.R_far (p := ⟨gb1403, 0, none⟩) (Kd.R_far (p := ⟨gb1419, 5, none⟩) (Kd.R_far (p := ⟨gb1419, 4, none⟩) (Kd.R_far (p := ⟨gb1419, 3, none⟩) (Kd.R_far (p := ⟨gb1419, 2, none⟩) (Kd.R_far (p := ⟨gb1419, 1, none⟩) (Kd.R_far (p := ⟨gb1419, 0, none⟩) (Kd.R_types (Kd.R_types HO1414.out BK1419.out (by decide)) BK1403.out (by decide)) (fun _ hk => hk.1.2) (.int .i64 t1404)) (fun _ hk => hk.1.2) (.slice Ao7 t1405.length co7)) (fun _ hk => hk.1.2) (.int .i64 t1408)) (fun _ hk => hk.1.2) (.slice Ao8 t1409.length co8)) (fun _ hk => hk.1.2) (.slice Ao9 t1412.length co9)) (fun _ hk => hk.1.2) (.slice Ao10 t1415.length co10)) (fun _ hk => hk.2) (.int .i64 t1404)) (fun _ hk => hk.2) (.slice Ao7 t1405.length co7)) (fun _ hk => hk.2) (.int .i64 t1408)) (fun _ hk => hk.2) (.slice Ao8 t1409.length co8)) (fun _ hk => hk.2) (.slice Ao9 t1412.length co9)) (fun _ hk => hk.2) (.slice Ao10 t1415.length co10)) (fun _ hk => (And.intro (hk.1.1.1) ((And.intro (hk.1.1.2.1) (hk.1.1.2.2))))), by refine ZQ ?_; exact Kd.R_mono (Kd.R_far (p := ⟨gb1403, 5, none⟩) (Kd.R_far (p := ⟨gb1403, 4, none⟩) (Kd.R_far (p := ⟨gb1403, 3, none⟩) (Kd.R_far (p := ⟨gb1403, 2, none⟩) (Kd.R_far (p := ⟨gb1403, 1, none⟩) (Kd.R_far (p := ⟨gb1403, 0, none⟩) (Kd.R_far (p := ⟨gb1419, 5, none⟩) (Kd.R_far (p := ⟨gb1419, 4, none⟩) (Kd.R_far (p := ⟨gb1419, 3, none⟩) (Kd.R_far (p := ⟨gb1419, 2, none⟩) (Kd.R_far (p := ⟨gb1419, 1, none⟩) (Kd.R_far (p := ⟨gb1419, 0, none⟩) (Kd.R_types (Kd.R_types HO1417.out BK1419.out (by decide)) BK1403.out (by decide)) (fun _ hk => hk.1.2) (.int .i64 t1404)) (fun _ hk => hk.1.2) (.slice Ao7 t1405.length co7)) (fun _ hk => hk.1.2) (.int .i64 t1408)) (fun _ hk => hk.1.2) (.slice Ao8 t1409.length co8)) (fun _ hk => hk.1.2) (.slice Ao9 t1412.length co9)) (fun _ hk => hk.1.2) (.slice Ao10 t1415.length co10)) (fun _ hk => hk.2) (.int .i64 t1404)) (fun _ hk => hk.2) (.slice Ao7 t1405.length co7)) (fun _ hk => hk.2) (.int .i64 t1408)) (fun _ hk => hk.2) (.slice Ao8 t1409.length co8)) (fun _ hk => hk.2) (.slice Ao9 t1412.length co9)) (fun _ hk => hk.2) (.slice Ao10 t1415.length co10)) (fun _ hk => (And.intro (hk.1.1.1) ((And.intro (hk.1.1.2.1) (hk.1.1.2.2))))), ZB⟩

/-! ### spec_NewDesk: function 49 -/
def spec_NewDesk.f (k : Nat)  : Option (Int × List Int × Int × List Int × List Int × List Int) := (spec_l11New.f k).bind fun bt1421 => (some (bt1421.1, bt1421.2.1, bt1421.2.2.1, bt1421.2.2.2.1, bt1421.2.2.2.2.1, bt1421.2.2.2.2.2))
theorem spec_NewDesk.mono : ∀ k, LeO (spec_NewDesk.f k ) (spec_NewDesk.f (k + 1) ) := by
 intro  k
 unfold spec_NewDesk.f
 repeat' first
   | (with_reducible exact spec_l11New.mono _)
   | (with_reducible exact LeO.refl _)
   | (with_reducible exact LeO.none _)
   | (with_reducible refine LeO.ite ?_ ?_)
   | (with_reducible refine LeO.bind ?_ (fun _ => ?_))
   | exact spec_l11New.mono _
   | exact LeO.none _
   | refine LeO.ite ?_ ?_
   | refine LeO.bind ?_ (fun _ => ?_)
set_option maxHeartbeats 8000000 in
set_option maxRecDepth 100000 in
theorem spec_NewDesk.calls (k : Nat)  (r1 : Int) (r2 : List Int) (r3 : Int) (r4 : List Int) (r5 : List Int) (r6 : List Int) (w : World) (h : spec_NewDesk.f k  = some (r1, r2, r3, r4, r5, r6)) :
  Calls Try.prog 49 #[] w fun e w' => ∃ v1_ v3_ v4_ v5_ : Value, e = .returned (.agg #[.int .i64 r1, v1_, .int .i64 r3, v3_, v4_, v5_]) ∧ Kd.R (Kd.int .i64) 2 w' w.heap.size (fun k_ => some k_ ≠ (v3_ : Value).ownBlock ∧ some k_ ≠ (v4_ : Value).ownBlock ∧ some k_ ≠ (v5_ : Value).ownBlock) v1_ r2 ∧ Kd.R (Kd.int .i64) 2 w' w.heap.size (fun k_ => some k_ ≠ (v1_ : Value).ownBlock ∧ some k_ ≠ (v4_ : Value).ownBlock ∧ some k_ ≠ (v5_ : Value).ownBlock) v3_ r4 ∧ Kd.R (Kd.int .i64) 2 w' w.heap.size (fun k_ => some k_ ≠ (v1_ : Value).ownBlock ∧ some k_ ≠ (v3_ : Value).ownBlock ∧ some k_ ≠ (v5_ : Value).ownBlock) v4_ r5 ∧ Kd.R (Kd.int .i64) 2 w' w.heap.size (fun k_ => some k_ ≠ (v1_ : Value).ownBlock ∧ some k_ ≠ (v3_ : Value).ownBlock ∧ some k_ ≠ (v4_ : Value).ownBlock) v5_ r6 ∧ Below w.heap.size w w' := by
 have hu61 := Try.underlying61
 have HB := Aside0.mk (Below.refl w.heap.size w)
 have H : ((spec_l11New.f k).bind fun bt1421 => (some (bt1421.1, bt1421.2.1, bt1421.2.2.1, bt1421.2.2.2.1, bt1421.2.2.2.2.1, bt1421.2.2.2.2.2))) = some (r1, r2, r3, r4, r5, r6) := h
 clear h
 replace H := Option.bind_eq_some_iff.mp H
 obtain ⟨⟨t1421, t1422, t1425, t1426, t1429, t1432⟩, A10, H⟩ := H
 replace H : (some (t1421, t1422, t1425, t1426, t1429, t1432)) = some (r1, r2, r3, r4, r5, r6) := H
 have A1 := Aside0.mk A10
 clear A10
 simp only [Option.some.injEq, Prod.mk.injEq] at H
 obtain ⟨rfl, rfl, rfl, rfl, rfl, rfl⟩ := H
 go_enter Try.func49, Try.ntmps49
 go_wp2_with (first | ((with_reducible refine gate_dst (N := 0) rfl ?_); refine box_event ?hg (N := 0) ?hd (cs := #[.int .i64 0, .slice none 0 0, .int .i64 0, .slice none 0 0, .slice none 0 0, .slice none 0 0]) (t := 61) ?hr ?_; (case hd => rfl); (case hg => rfl); (case hr => first | (go_simp; done) | (go_simp; rfl)); intro gb1420 hg w2 hbox hb; have n0_ := Aside0.mk (below_step ZB hb); have n1_ := Aside0.mk (hbox); have n2_ := Aside0.mk ((ZG hg : w.heap.size ≤ gb1420)); have n3_ := Aside0.mk ((ZG hg : w.heap.size ≤ gb1420)); clear HB; have HB := n0_; have BK1420 := n1_; have GW1420 := n2_; have GE1420 := n3_; clear n0_ n1_ n2_ n3_; clear hb hbox hg) | ((with_reducible refine gate_callee (f := 90) rfl ?_); refine goesL_ (some 1) rfl rfl Try.func90 (by kernel_rfl) rfl #[] rfl ZA ?_; (with_reducible refine (spec_l11New.calls k  t1421 t1422 t1425 t1426 t1429 t1432 _ A1.out).mono ?_); rintro e w3 ⟨v1423, v1427, v1430, v1433, rfl, ho0, ho1, ho2, ho3, hb⟩; refine ⟨_, rfl, ?_⟩; have n0_ := Aside0.mk (Kd.R_lower ho0 (below_size ZB)); have n1_ := Aside0.mk (Kd.R_lower ho1 (below_size ZB)); have n2_ := Aside0.mk (Kd.R_lower ho2 (below_size ZB)); have n3_ := Aside0.mk (Kd.R_lower ho3 (below_size ZB)); have n4_ := ZL BK1420 hb; have n5_ := Aside0.mk (below_step ZB hb); clear BK1420; clear HB; have HO1424 := n0_; have HO1428 := n1_; have HO1431 := n2_; have HO1434 := n3_; have BK1420 := n4_; have HB := n5_; clear n0_ n1_ n2_ n3_ n4_ n5_; (try clear hb); (try clear hb2); (try clear hk); (try clear hi); (try clear ho0); (try clear ho1); (try clear ho2); (try clear ho3); obtain ⟨hcz4_0, hcz4_1, hcz4_2, hcz4_3, hcz4_4, hcz4_5, hfz4_0, hfz4_1, hfz4_2, hfz4_3, hfz4_4, hfz4_5⟩ := ZD6 BK1420; obtain ⟨Ao5, co5, eo5⟩ := Kd.R_slice HO1424.out; subst eo5; obtain ⟨Ao6, co6, eo6⟩ := Kd.R_slice HO1428.out; subst eo6; obtain ⟨Ao7, co7, eo7⟩ := Kd.R_slice HO1431.out; subst eo7; obtain ⟨Ao8, co8, eo8⟩ := Kd.R_slice HO1434.out; subst eo8))
 refine bodyPost_ret (results_cell_row rfl _ _ gb1420 61 #[.int .i64 t1421, .slice Ao5 t1422.length co5, .int .i64 t1425, .slice Ao6 t1426.length co6, .slice Ao7 t1429.length co7, .slice Ao8 t1432.length co8] (0, 0) _ rfl (by refine ZS ?_; refine blk_put (cs := #[.int .i64 t1421, .slice Ao5 t1422.length co5, .int .i64 t1425, .slice Ao6 t1426.length co6, .slice Ao7 t1429.length co7, .slice none 0 0]) ?_ 5 _ rfl; refine ZS ?_; refine blk_put (cs := #[.int .i64 t1421, .slice Ao5 t1422.length co5, .int .i64 t1425, .slice Ao6 t1426.length co6, .slice none 0 0, .slice none 0 0]) ?_ 4 _ rfl; refine ZS ?_; refine blk_put (cs := #[.int .i64 t1421, .slice Ao5 t1422.length co5, .int .i64 t1425, .slice none 0 0, .slice none 0 0, .slice none 0 0]) ?_ 3 _ rfl; refine ZS ?_; refine blk_put (cs := #[.int .i64 t1421, .slice Ao5 t1422.length co5, .int .i64 0, .slice none 0 0, .slice none 0 0, .slice none 0 0]) ?_ 2 _ rfl; refine ZS ?_; refine blk_put (cs := #[.int .i64 t1421, .slice none 0 0, .int .i64 0, .slice none 0 0, .slice none 0 0, .slice none 0 0]) ?_ 1 _ rfl; refine ZS ?_; refine blk_put (cs := #[.int .i64 0, .slice none 0 0, .int .i64 0, .slice none 0 0, .slice none 0 0, .slice none 0 0]) ?_ 0 _ rfl; refine ZS ?_; exact BK1420.out) Try.underlying61 rfl (by kernel_rfl)) rfl ?_
 exact ⟨_, _, _, _, by first | rfl | (simp [errW_none, errW_some] <;> rfl) | (simp [*, errW_none, errW_some] <;> rfl), by refine ZQ ?_; exact Kd.R_mono (Kd.R_far (p := ⟨gb1420, 5, none⟩) (Kd.R_far (p := ⟨gb1420, 4, none⟩) (Kd.R_far (p := ⟨gb1420, 3, none⟩) (Kd.R_far (p := ⟨gb1420, 2, none⟩) (Kd.R_far (p := ⟨gb1420, 1, none⟩) (Kd.R_far (p := ⟨gb1420, 0, none⟩) (Kd.R_types HO1424.out BK1420.out (by decide)) (fun _ hk => hk.2) (.int .i64 t1421)) (fun _ hk => hk.2) (.slice Ao5 t1422.length co5)) (fun _ hk => hk.2) (.int .i64 t1425)) (fun _ hk => hk.2) (.slice Ao6 t1426.length co6)) (fun _ hk => hk.2) (.slice Ao7 t1429.length co7)) (fun _ hk => hk.2) (.slice Ao8 t1432.length co8)) (fun _ hk => (And.intro (hk.1.1) ((And.intro (hk.1.2.1) (hk.1.2.2))))), by refine ZQ ?_; exact Kd.R_mono (Kd.R_far (p := ⟨gb1420, 5, none⟩) (Kd.R_far (p := ⟨gb1420, 4, none⟩) (Kd.R_far (p := ⟨gb1420, 3, none⟩) (Kd.R_far (p := ⟨gb1420, 2, none⟩) (Kd.R_far (p := ⟨gb1420, 1, none⟩) (Kd.R_far (p := ⟨gb1420, 0, none⟩) (Kd.R_types HO1428.out BK1420.out (by decide)) (fun _ hk => hk.2) (.int .i64 t1421)) (fun _ hk => hk.2) (.slice Ao5 t1422.length co5)) (fun _ hk => hk.2) (.int .i64 t1425)) (fun _ hk => hk.2) (.slice Ao6 t1426.length co6)) (fun _ hk => hk.2) (.slice Ao7 t1429.length co7)) (fun _ hk => hk.2) (.slice Ao8 t1432.length co8)) (fun _ hk => (And.intro (hk.1.1) ((And.intro (hk.1.2.1) (hk.1.2.2))))), by refine ZQ ?_; exact Kd.R_mono (Kd.R_far (p := ⟨gb1420, 5, none⟩) (Kd.R_far (p := ⟨gb1420, 4, none⟩) (Kd.R_far (p := ⟨gb1420, 3, none⟩) (Kd.R_far (p := ⟨gb1420, 2, none⟩) (Kd.R_far (p := ⟨gb1420, 1, none⟩) (Kd.R_far (p := ⟨gb1420, 0, none⟩) (Kd.R_types HO1431.out BK1420.out (by decide)) (fun _ hk => hk.2) (.int .i64 t1421)) (fun _ hk => hk.2) (.slice Ao5 t1422.length co5)) (fun _ hk => hk.2) (.int .i64 t1425)) (fun _ hk => hk.2) (.slice Ao6 t1426.length co6)) (fun _ hk => hk.2) (.slice Ao7 t1429.length co7)) (fun _ hk => hk.2) (.slice Ao8 t1432.length co8)) (fun _ hk => (And.intro (hk.1.1) ((And.intro (hk.1.2.1) (hk.1.2.2))))), by refine ZQ ?_; exact Kd.R_mono (Kd.R_far (p := ⟨gb1420, 5, none⟩) (Kd.R_far (p := ⟨gb1420, 4, none⟩) (Kd.R_far (p := ⟨gb1420, 3, none⟩) (Kd.R_far (p := ⟨gb1420, 2, none⟩) (Kd.R_far (p := ⟨gb1420, 1, none⟩) (Kd.R_far (p := ⟨gb1420, 0, none⟩) (Kd.R_types HO1434.out BK1420.out (by decide)) (fun _ hk => hk.2) (.int .i64 t1421)) (fun _ hk => hk.2) (.slice Ao5 t1422.length co5)) (fun _ hk => hk.2) (.int .i64 t1425)) (fun _ hk => hk.2) (.slice Ao6 t1426.length co6)) (fun _ hk => hk.2) (.slice Ao7 t1429.length co7)) (fun _ hk => hk.2) (.slice Ao8 t1432.length co8)) (fun _ hk => (And.intro (hk.1.1) ((And.intro (hk.1.2.1) (hk.1.2.2))))), ZB⟩

/-! ### slices_Index_string_string: function 139 -/
def slices_Index_string_string.l0 : Nat → List ByteArray → ByteArray → Int → Int → Option (Int)
 | 0, _, _, _, _ => none
 | k + 1, x0, x1, x7, x8 => if x8 < x7 then (if 0 ≤ x8 then (if x8 < (x0.length : Int) then (if x1.toList = (rdOf ByteArray.empty x0 x8).toList then (some x8) else (slices_Index_string_string.l0 k x0 x1 x7 (wrap64 (x8 + 1)))) else (none)) else (none)) else (some (-1))
def slices_Index_string_string.f (k : Nat) (l0 : List ByteArray) (a1 : ByteArray) : Option (Int) := slices_Index_string_string.l0 k l0 a1 (l0.length : Int) 0
theorem slices_Index_string_string.mono_l : ∀ k, (∀ y0 y1 y2 y3, LeO (slices_Index_string_string.l0 k y0 y1 y2 y3) (slices_Index_string_string.l0 (k + 1) y0 y1 y2 y3))
 | 0 => fun _ _ _ _ r h => by simp [slices_Index_string_string.l0] at h
 | k + 1 => by
  have ih0 := slices_Index_string_string.mono_l k
  ·intro y0 y1 y2 y3
   unfold slices_Index_string_string.l0
   repeat' first
   | (with_reducible exact ih0 _ _ _ _)
   | (with_reducible exact LeO.refl _)
   | (with_reducible exact LeO.none _)
   | (with_reducible refine LeO.ite ?_ ?_)
   | (with_reducible refine LeO.bind ?_ (fun _ => ?_))
   | exact ih0 _ _ _ _
   | exact LeO.none _
   | refine LeO.ite ?_ ?_
   | refine LeO.bind ?_ (fun _ => ?_)
theorem slices_Index_string_string.mono : ∀ a0 a1 k, LeO (slices_Index_string_string.f k a0 a1) (slices_Index_string_string.f (k + 1) a0 a1) := by
 intro a0 a1 k
 have ih0 := slices_Index_string_string.mono_l k
 unfold slices_Index_string_string.f
 repeat' first
   | (with_reducible exact ih0 _ _ _ _)
   | (with_reducible exact LeO.refl _)
   | (with_reducible exact LeO.none _)
   | (with_reducible refine LeO.ite ?_ ?_)
   | (with_reducible refine LeO.bind ?_ (fun _ => ?_))
   | exact ih0 _ _ _ _
   | exact LeO.none _
   | refine LeO.ite ?_ ?_
   | refine LeO.bind ?_ (fun _ => ?_)
set_option maxHeartbeats 8000000 in
set_option maxRecDepth 100000 in
theorem slices_Index_string_string.calls (k : Nat) (A0 : Option Addr) (c0 : Nat) (l0 : List ByteArray) (a1 : ByteArray) (r : Int) (w : World) (hr0 : Kd.C Kd.string w A0 l0.length l0) (hc0 : l0.length ≤ c0) (h : slices_Index_string_string.f k l0 a1 = some r) :
  Calls Try.prog 139 #[.slice A0 l0.length c0, .string a1] w fun e w' => e = .returned (.int .i64 r) ∧ Drawn0 w w' := by
 have HR0 := Aside0.mk hr0
 have HC0 := Aside0.mk hc0
 clear hr0 hc0
 have H : (slices_Index_string_string.l0 k l0 a1 (l0.length : Int) 0) = some r := h
 clear h
 have H' := Aside0.mk H
 clear H
 go_enter Try.func139, Try.ntmps139
 go_wp2
 go_loopg [8] k (fun kq v8 w' => ∃ (x8_1 : Int), v8 = .int .i64 x8_1 ∧ Aside0 (slices_Index_string_string.l0 kq l0 a1 (l0.length : Int) x8_1 = some r) ∧ Aside0 (kq ≤ k) ∧ Drawn0 w w')
 case atStart => exact ⟨(0), (by first | rfl | (simp; done) | (simp [*]; done)), H', ⟨Nat.le_refl _⟩, by repeat (first | exact Drawn0.refl _ | apply Drawn0.step)⟩
 case round =>
  clear H'
  try clear c1
  try clear p2
  obtain ⟨x8_1, rfl, HA, HK1, ⟨m1, rfl⟩⟩ := hrel
  cases gk with
  | zero => exact absurd HA.out (by simp [slices_Index_string_string.l0])
  | succ k1 =>
   have H := HA.out
   clear HA
   simp only [slices_Index_string_string.l0] at H
   by_cases c3 : x8_1 < (l0.length : Int)
   ·rw [if_pos c3] at H
    have c3b0 : decide (x8_1 < (l0.length : Int)) = true := decide_eq_true c3
    clear c3
    by_cases c4 : 0 ≤ x8_1
    ·rw [if_pos c4] at H
     have c4b0 : decide (0 ≤ x8_1) = true := decide_eq_true c4
     clear c4
     by_cases c5 : x8_1 < (l0.length : Int)
     ·rw [if_pos c5] at H
      have c5b0 : decide (x8_1 < (l0.length : Int)) = true := decide_eq_true c5
      clear c5
      by_cases c6 : a1.toList = (rdOf ByteArray.empty l0 x8_1).toList
      ·rw [if_pos c6] at H
       have c6b0 : (a1.toList == (rdOf ByteArray.empty l0 x8_1).toList) = true := beq_iff_eq.mpr c6
       have c6b1 : (a1.toList != (rdOf ByteArray.empty l0 x8_1).toList) = false := bne_eq_false_iff_eq.mpr c6
       clear c6
       obtain rfl := Option.some.inj H
       have p1435 : 0 ≤ (x8_1 : Int) := of_decide_eq_true (by first | (with_reducible assumption) | assumption)
       have q1435 : x8_1 < (l0.length : Int) := of_decide_eq_true (by first | (with_reducible assumption) | assumption)
       obtain ⟨ad1435, e1435, hx1435_0⟩ := Kd.at_string HR0.out x8_1 p1435 q1435
       cases e1435
       replace p1435 := eq_true p1435
       replace q1435 := eq_true q1435
       go_wp2
       go_ret
       exact ⟨by first | rfl | (simp; done) | (simp [*]; done), by repeat (first | exact Drawn0.refl _ | apply Drawn0.step)⟩
      ·rw [if_neg c6] at H
       have c6b0 : (a1.toList == (rdOf ByteArray.empty l0 x8_1).toList) = false := beq_eq_false_iff_ne.mpr c6
       have c6b1 : (a1.toList != (rdOf ByteArray.empty l0 x8_1).toList) = true := bne_iff_ne.mpr c6
       have H' := Aside0.mk H
       clear H
       have p1435 : 0 ≤ (x8_1 : Int) := of_decide_eq_true (by first | (with_reducible assumption) | assumption)
       have q1435 : x8_1 < (l0.length : Int) := of_decide_eq_true (by first | (with_reducible assumption) | assumption)
       obtain ⟨ad1435, e1435, hx1435_0⟩ := Kd.at_string HR0.out x8_1 p1435 q1435
       cases e1435
       replace p1435 := eq_true p1435
       replace q1435 := eq_true q1435
       go_wp2
       go_roundg k1
       case measure => have := HK1.out; omega
       case rel => exact ⟨(wrap64 (x8_1 + 1)), (by first | rfl | (simp; done) | (simp [*]; done)), H', ⟨by have := HK1.out; omega⟩, by repeat (first | exact Drawn0.refl _ | apply Drawn0.step)⟩
     ·rw [if_neg c5] at H
      exact absurd H (by simp)
    ·rw [if_neg c4] at H
     exact absurd H (by simp)
   ·rw [if_neg c3] at H
    have c3b0 : decide (x8_1 < (l0.length : Int)) = false := decide_eq_false c3
    clear c3
    obtain rfl := Option.some.inj H
    go_wp2
    go_ret
    exact ⟨by first | rfl | (simp; done) | (simp [*]; done), by repeat (first | exact Drawn0.refl _ | apply Drawn0.step)⟩

/-! ### slices_Contains_string_string: function 135 -/
def slices_Contains_string_string.f (k : Nat) (l0 : List ByteArray) (a1 : ByteArray) : Option (Bool) := (slices_Index_string_string.f k l0 a1).bind fun t1436 => (some (decide (t1436 ≥ 0)))
theorem slices_Contains_string_string.mono : ∀ a0 a1 k, LeO (slices_Contains_string_string.f k a0 a1) (slices_Contains_string_string.f (k + 1) a0 a1) := by
 intro a0 a1 k
 unfold slices_Contains_string_string.f
 repeat' first
   | (with_reducible exact slices_Index_string_string.mono _ _ _)
   | (with_reducible exact LeO.refl _)
   | (with_reducible exact LeO.none _)
   | (with_reducible refine LeO.ite ?_ ?_)
   | (with_reducible refine LeO.bind ?_ (fun _ => ?_))
   | exact slices_Index_string_string.mono _ _ _
   | exact LeO.none _
   | refine LeO.ite ?_ ?_
   | refine LeO.bind ?_ (fun _ => ?_)
set_option maxHeartbeats 8000000 in
set_option maxRecDepth 100000 in
theorem slices_Contains_string_string.calls (k : Nat) (A0 : Option Addr) (c0 : Nat) (l0 : List ByteArray) (a1 : ByteArray) (r : Bool) (w : World) (hr0 : Kd.C Kd.string w A0 l0.length l0) (hc0 : l0.length ≤ c0) (h : slices_Contains_string_string.f k l0 a1 = some r) :
  Calls Try.prog 135 #[.slice A0 l0.length c0, .string a1] w fun e w' => e = .returned (.bool r) ∧ Drawn0 w w' := by
 have HR0 := Aside0.mk hr0
 have HC0 := Aside0.mk hc0
 clear hr0 hc0
 have H : ((slices_Index_string_string.f k l0 a1).bind fun t1436 => (some (decide (t1436 ≥ 0)))) = some r := h
 clear h
 replace H := Option.bind_eq_some_iff.mp H
 obtain ⟨t1436, A30, H⟩ := H
 replace H : (some (decide (t1436 ≥ 0))) = some r := H
 have A3 := Aside0.mk A30
 clear A30
 obtain rfl := Option.some.inj H
 go_enter Try.func135, Try.ntmps135
 go_wp2_with (first | ((with_reducible refine gate_callee (f := 139) rfl ?_); refine goesL_ (some 7) rfl rfl Try.func139 (by kernel_rfl) rfl #[.slice A0 l0.length c0, .string a1] rfl ZA ?_; (with_reducible refine (slices_Index_string_string.calls k _ _ l0 a1 t1436 _ ?side1 ?side2 A3.out).mono ?_); (case side1 => repeat (first | exact HR0.out | (with_reducible refine Kd.C_alloc ?_ _) | (with_reducible refine Kd.C_drewN ?_ _) | (with_reducible refine Kd.C_drew ?_))); (case side2 => exact HC0.out); rintro e w' ⟨rfl, ⟨nd, rfl⟩⟩; refine ⟨_, rfl, ?_⟩))
 go_ret
 exact ⟨by first | rfl | (simp; done) | (simp [*]; done), by repeat (first | exact Drawn0.refl _ | apply Drawn0.step)⟩

end Go.Proofs.Ytaclapojgdekpaa.X
