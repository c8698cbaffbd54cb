/- The walk of the law FnExactStepsOfJacobi: where the plain answers are as told, the law's code returns true. No conditions but those answers. -/
import Derived.Test.YtaclapojgdekpaaCStepsOfJacobiX10
import Derived.Test.YtaclapojgdekpaaCStepsOfJacobiX39
import Derived.Test.YtaclapojgdekpaaCStepsOfJacobiX42
import Derived.Test.YtaclapojgdekpaaCStepsOfJacobiXHSteps
namespace Go.Proofs.Ytaclapojgdekpaa.X
open Go.RowKit Go.Proofs.YtaclapojgdekpaaW.PrintWords Go.Proofs.YtaclapojgdekpaaW.PrintLast Go.Proofs.YtaclapojgdekpaaW.PrintMore
set_option linter.unusedVariables false
set_option linter.unusedSimpArgs false
theorem hand_markJs_at (k : Nat) (N : Nat) (ok : Nat → Prop) (A : Option Addr) (c : Nat) (l0 : List S29) (a1 : Int) (r1 : Int) (r2 : List S29) (w : World) (hN : N ≤ w.heap.size) (ho : Kd.S jkA 29 w N ok (.slice A l0.length c) l0) (h : laws_markJacobiS.f k l0 a1 = some (r1, r2)) :
    Calls Try.prog 47 #[.slice A l0.length c, .int .i64 a1] w fun e w' => e = .returned (.int .i64 r1) ∧ Kd.S jkA 29 w' N (fun k_ => (ok k_ ∨ w.heap.size ≤ k_)) (.slice A l0.length c) r2 ∧ Below N w w' := by
  have hs : ({ w with heap := w.heap.extract 0 N } : World).heap.size = N := by simp; omega
  have hB : Below ({ w with heap := w.heap.extract 0 N } : World).heap.size { w with heap := w.heap.extract 0 N } w := by
    rw [hs]
    refine ⟨rfl, rfl, rfl, by rw [hs]; exact hN, fun i hi => ?_⟩
    show w.heap[i]? = (w.heap.extract 0 N)[i]?
    rw [Array.getElem?_extract]
    simp
    omega
  refine (hand_markJs k ok A c l0 a1 r1 r2 { w with heap := w.heap.extract 0 N } w hB (by rw [hs]; exact ho) h).mono ?_
  rintro e w' ⟨rfl, h1, h2, h3⟩
  rw [hs] at h1 h2 hB
  exact ⟨rfl, h1, ⟨h2.os.trans hB.os.symm, h2.tape.trans hB.tape.symm, h2.output.trans hB.output.symm, h3.1, fun i hi => (h2.block i hi).trans (hB.block i hi).symm⟩⟩
/-- The program's steps, with the row's place told. -/
theorem impl_StepsOfJacobi.callsC (k : Nat) (a0_0 : Int) (A0_1 : Option Addr) (c0_1 : Nat) (l0_1 : List Int) (A0_2 : Option Addr) (c0_2 : Nat) (l0_2 : List Int) (a1 a2 : Int) (r1 : List S29) (r2 : Int) (w : World) (hr0_1 : Kd.C (Kd.int .i64) w A0_1 l0_1.length l0_1) (hc0_1 : l0_1.length ≤ c0_1) (hr0_2 : Kd.C (Kd.int .i64) w A0_2 l0_2.length l0_2) (hc0_2 : l0_2.length ≤ c0_2) (h : impl_StepsOfJacobi.f k a0_0 l0_1 l0_2 a1 a2 = some (r1, r2)) :
    Calls Try.prog 45 #[.agg #[.int .i64 a0_0, .slice A0_1 l0_1.length c0_1, .slice A0_2 l0_2.length c0_2], .int .i64 a1, .int .i64 a2] w fun e w' => ∃ (A : Option Addr) (c : Nat), e = .returned (.tuple #[.slice A r1.length c, .int .i64 r2]) ∧ r1.length ≤ c ∧ Kd.S jkA 29 w' w.heap.size (fun _ => True) (.slice A r1.length c) r1 ∧ Below w.heap.size w w' := by
  refine (impl_StepsOfJacobi.callsS k a0_0 _ _ l0_1 _ _ l0_2 a1 a2 r1 r2 w hr0_1 hc0_1 hr0_2 hc0_2 h).mono ?_
  rintro e w' ⟨v, rfl, hs, hb⟩
  obtain ⟨A, c, rfl⟩ := Kd.S_slice hs
  exact ⟨A, c, rfl, (Kd.S_reads' hs).2.1, Kd.S_mono hs (fun _ _ => trivial), hb⟩
set_option maxHeartbeats 8000000 in
set_option maxRecDepth 100000 in
theorem hand_steps (k : Nat) (a0_0 : Int) (A0_1 : Option Addr) (c0_1 : Nat) (l0_1 : List Int) (A0_2 : Option Addr) (c0_2 : Nat) (l0_2 : List Int) (a1 a2 : Int) (z m t : Int) (tri tri2 : List S29) (code : Int) (ma mb : List Int) (w : World)
    (hr0_1 : Kd.C (Kd.int .i64) w A0_1 l0_1.length l0_1) (hc0_1 : l0_1.length ≤ c0_1) (hr0_2 : Kd.C (Kd.int .i64) w A0_2 l0_2.length l0_2) (hc0_2 : l0_2.length ≤ c0_2)
    (hsz : laws_szJacobi.f a0_0 l0_1 l0_2 1048576 = some z) (hz : 0 ≤ z) (hto : laws_toJacobi.f k a0_0 l0_1 l0_2 = some (a0_0, l0_1, l0_2))
    (hsp : spec_StepsOfJacobi.f k a0_0 l0_1 l0_2 a1 a2 = some (tri, code)) (him : impl_StepsOfJacobi.f k a0_0 l0_1 l0_2 a1 a2 = some (tri, code))
    (heq : laws_eqJacobiS.f k tri tri = some true) (hej : laws_eqJacobi.f k a0_0 l0_1 l0_2 a0_0 l0_1 l0_2 = some true)
    (hmj : laws_markJacobi.f k a0_0 l0_1 l0_2 1 = some (m, ma, mb)) (hm : 0 ≤ m) (hms : laws_markJacobiS.f k tri 1 = some (t, tri2)) (hhs : laws_heldJacobiS.f k tri2 1 = some t) (ht : 0 ≤ t) :
    Calls Try.prog 12 #[.agg #[.int .i64 a0_0, .slice A0_1 l0_1.length c0_1, .slice A0_2 l0_2.length c0_2], .int .i64 a1, .int .i64 a2] w fun e w' => e = .returned (.bool true) ∧ Below w.heap.size w w' := by
  have HR0_1 := Aside0.mk hr0_1
  have HR0_2 := Aside0.mk hr0_2
  have HB := Aside0.mk (Below.refl w.heap.size w)
  have hz0 : decide (z < 0) = false := decide_eq_false (by omega)
  have hm0 : decide (m < 0) = false := decide_eq_false (by omega)
  have ht0 : decide (t < 0) = false := decide_eq_false (by omega)
  have A1 := Aside0.mk hsz; have A2 := Aside0.mk hto; have A3 := Aside0.mk hsp; have A4 := Aside0.mk him; have A5 := Aside0.mk heq; have A6 := Aside0.mk hej; have A7 := Aside0.mk hmj; have A8 := Aside0.mk hms; have A9 := Aside0.mk hhs
  clear hsz hto hsp him heq hej hmj hms hhs hz hm ht hr0_1 hr0_2
  go_enter Try.func12, Try.ntmps12
  go_wp2_with (first | ((with_reducible refine gate_dst (N := 3) rfl ?_); refine box_event ?hg (N := 3) ?hd (cs := #[.int .i64 a0_0, .slice A0_1 l0_1.length c0_1, .slice A0_2 l0_2.length c0_2]) (t := 24) ?hr ?_; (case hd => rfl); (case hg => rfl); (case hr => first | (go_simp; done) | (go_simp; rfl)); intro gA hgA wA hbox hb; have BKA := Aside0.mk hbox; have GEA := Aside0.mk (ZG hgA : w.heap.size ≤ gA); replace HB := Aside0.mk (below_step ZB hb); clear hb hbox hgA; obtain ⟨qc0, qc1, qc2, qf0, qf1, qf2⟩ := ZD3 BKA) | ((with_reducible refine gate_callee (f := 14) rfl ?_); refine goesL_ (some 20) rfl rfl Try.func14 (by kernel_rfl) rfl #[.agg #[.int .i64 a0_0, .slice A0_1 l0_1.length c0_1, .slice A0_2 l0_2.length c0_2], .int .i64 1048576] rfl ZA ?_; (with_reducible refine (laws_szJacobi.calls a0_0 _ _ l0_1 _ _ l0_2 1048576 z _ ?side1 hc0_1 ?side3 hc0_2 A1.out).mono ?_); (case side1 => exact ZE HR0_1); (case side3 => exact ZE HR0_2); rintro e wB ⟨rfl, hb⟩; refine ⟨_, rfl, ?_⟩; replace BKA := ZL BKA hb; replace HB := Aside0.mk (below_step ZB hb); clear hb; obtain ⟨rc0, rc1, rc2, rf0, rf1, rf2⟩ := ZD3 BKA) | ((with_reducible refine gate_callee (f := 16) rfl ?_); refine goesL_ (some 25) rfl rfl Try.func16 (by kernel_rfl) rfl #[.agg #[.int .i64 a0_0, .slice A0_1 l0_1.length c0_1, .slice A0_2 l0_2.length c0_2]] rfl ZA ?_; (with_reducible refine (laws_toJacobi.calls k a0_0 _ _ l0_1 _ _ l0_2 a0_0 l0_1 l0_2 _ ?side1 hc0_1 ?side3 hc0_2 A2.out).mono ?_); (case side1 => exact ZE HR0_1); (case side3 => exact ZE HR0_2); rintro e wC ⟨va, vb, rfl, ha, hb2, hb⟩; refine ⟨_, rfl, ?_⟩; replace BKA := ZL BKA hb; replace HB := Aside0.mk (below_step ZB hb); clear hb; obtain ⟨sc0, sc1, sc2, sf0, sf1, sf2⟩ := ZD3 BKA; obtain ⟨Aa, ca, rfl⟩ := Kd.R_slice ha; obtain ⟨Ab, cb, rfl⟩ := Kd.R_slice hb2; have HJa := Aside0.mk ha; have HJb := Aside0.mk hb2; clear ha hb2) | ((with_reducible refine gate_callee (f := 44) rfl ?_); refine goesL_ (some 28) rfl rfl Try.func44 (by kernel_rfl) rfl #[.agg #[.int .i64 a0_0, .slice Aa l0_1.length ca, .slice Ab l0_2.length cb], .int .i64 a1, .int .i64 a2] rfl ZA ?_; (with_reducible refine (spec_StepsOfJacobi.calls k a0_0 _ _ l0_1 _ _ l0_2 a1 a2 tri code _ (Kd.R_reads' HJa.out).2.2 (Kd.R_reads' HJa.out).2.1 (Kd.R_reads' HJb.out).2.2 (Kd.R_reads' HJb.out).2.1 A3.out).mono ?_); rintro e wD ⟨vw, rfl, hw, hb⟩; refine ⟨_, rfl, ?_⟩; replace BKA := ZL BKA hb; replace HB := Aside0.mk (below_step ZB hb); clear hb; obtain ⟨tc0, tc1, tc2, tf0, tf1, tf2⟩ := ZD3 BKA; have HSD := Aside0.mk (below_size HB.out); obtain ⟨Aw, cw, rfl⟩ := Kd.N_slice hw; have HW0 := Aside0.mk (Kd.N_mono (ok' := fun k_ => k_ < wD.heap.size) (Kd.N_bound hw) (fun _ h_ => h_.2)); clear hw HJa HJb) | ((with_reducible refine gate_callee (f := 16) rfl ?_); refine goesL_ (some 32) rfl rfl Try.func16 (by kernel_rfl) rfl #[.agg #[.int .i64 a0_0, .slice A0_1 l0_1.length c0_1, .slice A0_2 l0_2.length c0_2]] rfl ZA ?_; (with_reducible refine (laws_toJacobi.calls k a0_0 _ _ l0_1 _ _ l0_2 a0_0 l0_1 l0_2 _ ?side1 hc0_1 ?side3 hc0_2 A2.out).mono ?_); (case side1 => exact ZE HR0_1); (case side3 => exact ZE HR0_2); rintro e wE ⟨va, vb, rfl, ha, hb2, hb⟩; refine ⟨_, rfl, ?_⟩; replace BKA := ZL BKA hb; replace HB := Aside0.mk (below_step ZB hb); have HBD := Aside0.mk hb; replace HW0 := Aside0.mk (Kd.N_below HW0.out hb); clear hb; obtain ⟨uc0, uc1, uc2, uf0, uf1, uf2⟩ := ZD3 BKA; obtain ⟨Ax, cx, rfl⟩ := Kd.R_slice ha; obtain ⟨Ay, cy, rfl⟩ := Kd.R_slice hb2; have HXa := Aside0.mk ha; have HXb := Aside0.mk hb2; clear ha hb2) | ((with_reducible refine gate_dst (N := 10) rfl ?_); refine box_event ?hg (N := 10) ?hd (cs := #[.int .i64 0, .slice none 0 0, .slice none 0 0]) (t := 29) ?hr ?_; (case hd => rfl); (case hg => rfl); (case hr => first | (go_simp; done) | (go_simp; rfl)); intro gX hgX wF hbox hb; have BKX := Aside0.mk hbox; have NX := Aside0.mk (ZN hgX BKA : gA ≠ gX); have GEX := Aside0.mk (ZG hgX : w.heap.size ≤ gX); have GDX := Aside0.mk (show wD.heap.size ≤ gX by rw [hgX]; exact HBD.out.size); replace BKA := ZL BKA hb; replace HB := Aside0.mk (below_step ZB hb); replace HBD := Aside0.mk (below_step HBD.out hb); replace HW0 := Aside0.mk (Kd.N_below HW0.out hb); replace HXa := Aside0.mk (Kd.R_below HXa.out hb); replace HXb := Aside0.mk (Kd.R_below HXb.out hb); clear hb hbox hgX; obtain ⟨xc0, xc1, xc2, xf0, xf1, xf2⟩ := ZD3 BKX) | ((with_reducible refine gate_callee (f := 45) rfl ?_); refine goesL_ (some 37) rfl rfl Try.func45 (by kernel_rfl) rfl #[.agg #[.int .i64 a0_0, .slice Ax l0_1.length cx, .slice Ay l0_2.length cy], .int .i64 a1, .int .i64 a2] rfl ZA ?_; generalize hwG : (((wF.setCell ⟨gX, 0, none⟩ (.int .i64 a0_0)).setCell ⟨gX, 1, none⟩ (.slice Ax l0_1.length cx)).setCell ⟨gX, 2, none⟩ (.slice Ay l0_2.length cy)) = wG; have HXa2 : Aside0 (Kd.R (Kd.int .i64) 2 wG wD.heap.size (fun k_ => some k_ ≠ (.slice Ay l0_2.length cy : Value).ownBlock) (.slice Ax l0_1.length cx) l0_1) := ⟨by rw [← hwG]; exact ZF3 HXa BKX _ _ _⟩; have HXb2 : Aside0 (Kd.R (Kd.int .i64) 2 wG wD.heap.size (fun k_ => some k_ ≠ (.slice Ax l0_1.length cx : Value).ownBlock) (.slice Ay l0_2.length cy) l0_2) := ⟨by rw [← hwG]; exact ZF3 HXb BKX _ _ _⟩; have HW2 : Aside0 (Kd.N k29 29 wG wC.heap.size (fun k_ => k_ < wD.heap.size) (.slice Aw tri.length cw) tri) := ⟨by rw [← hwG]; exact Kd.N_far (p := ⟨gX, 2, none⟩) (Kd.N_far (p := ⟨gX, 1, none⟩) (Kd.N_far (p := ⟨gX, 0, none⟩) HW0.out (fun k_ hk => Nat.ne_of_lt (Nat.lt_of_lt_of_le hk GDX.out)) _) (fun k_ hk => Nat.ne_of_lt (Nat.lt_of_lt_of_le hk GDX.out)) _) (fun k_ hk => Nat.ne_of_lt (Nat.lt_of_lt_of_le hk GDX.out)) _⟩; have BKX2 : Aside0 (wG.heap[gX]? = some (.cells #[.int .i64 a0_0, .slice Ax l0_1.length cx, .slice Ay l0_2.length cy] 29 (0, 0))) := ⟨by rw [← hwG]; refine blk_put (cs := #[.int .i64 a0_0, .slice Ax l0_1.length cx, .slice none 0 0]) ?_ 2 _ rfl; refine blk_put (cs := #[.int .i64 a0_0, .slice none 0 0, .slice none 0 0]) ?_ 1 _ rfl; refine blk_put (cs := #[.int .i64 0, .slice none 0 0, .slice none 0 0]) ?_ 0 _ rfl; exact BKX.out⟩; have BKA2 : Aside0 (wG.heap[gA]? = some (.cells #[.int .i64 a0_0, .slice A0_1 l0_1.length c0_1, .slice A0_2 l0_2.length c0_2] 24 (0, 0))) := ⟨by rw [← hwG]; exact blk_far (blk_far (blk_far BKA.out NX.out _) NX.out _) NX.out _⟩; have HB2 : Aside0 (Below w.heap.size w wG) := ⟨by rw [← hwG]; exact below_set (below_set (below_set HB.out GEX.out) GEX.out) GEX.out⟩; have HBD2 : Aside0 (Below wD.heap.size wD wG) := ⟨by rw [← hwG]; exact below_set (below_set (below_set HBD.out GDX.out) GDX.out) GDX.out⟩; clear HXa HXb HW0 BKX BKA HB HBD hwG; (with_reducible refine (impl_StepsOfJacobi.callsC k a0_0 _ _ l0_1 _ _ l0_2 a1 a2 tri code _ (Kd.R_reads' HXa2.out).2.2 (Kd.R_reads' HXa2.out).2.1 (Kd.R_reads' HXb2.out).2.2 (Kd.R_reads' HXb2.out).2.1 A4.out).mono ?_); rintro e wH ⟨Ag, c2, rfl, hc2, hg, hb⟩; refine ⟨_, rfl, ?_⟩; have BKA := ZL BKA2 hb; have BKX := ZL BKX2 hb; have HB := Aside0.mk (below_step HB2.out hb); have HBD := Aside0.mk (below_step HBD2.out hb); have HW0 := Aside0.mk (Kd.N_below HW2.out hb); have HXa := Aside0.mk (Kd.R_below HXa2.out hb); have HXb := Aside0.mk (Kd.R_below HXb2.out hb); have HBG := Aside0.mk hb; have HDG := Aside0.mk (HBD2.out.size); have HDK := Aside0.mk (HBD2.out.size); have HGA := Aside0.mk (blk_lt BKA2.out); have HLa := Aside0.mk (Kd.R_lt HXa2.out); have HLb := Aside0.mk (Kd.R_lt HXb2.out); clear HXa2 HXb2 HW2 BKX2 BKA2 HB2 HBD2 hb; obtain ⟨yc0, yc1, yc2, yf0, yf1, yf2⟩ := ZD3 BKA; obtain ⟨zc0, zc1, zc2, zf0, zf1, zf2⟩ := ZD3 BKX; have HC2 := Aside0.mk hc2; clear hc2; have HG := Aside0.mk (Kd.S_mono (ok' := fun k_ => wG.heap.size ≤ k_) (Kd.S_bound hg) (fun _ h_ => h_.2.1)); clear hg))
  (with_reducible refine (laws_eqJacobiS.calls k _ _ tri _ _ tri true _ (jkA_C (Kd.S_reads' HG.out).2.2) HC2.out (Kd.N_reads' HW0.out).2.2 (Kd.N_reads' HW0.out).2.1 A5.out).mono ?_)
  rintro e wI ⟨rfl, hd⟩
  have hb := hd
  replace BKA := ZL BKA hb
  replace BKX := ZL BKX hb
  replace HB := Aside0.mk (below_step HB.out hb)
  replace HBD := Aside0.mk (below_step HBD.out hb)
  replace HBG := Aside0.mk (below_step HBG.out hb)
  replace HW0 := Aside0.mk (Kd.N_below HW0.out hb)
  replace HXa := Aside0.mk (Kd.R_below HXa.out hb)
  replace HXb := Aside0.mk (Kd.R_below HXb.out hb)
  replace HG := Aside0.mk (Kd.S_below HG.out hb)
  clear hb
  (try clear hd)
  obtain ⟨yc0, yc1, yc2, yf0, yf1, yf2⟩ := ZD3 BKA
  obtain ⟨zc0, zc1, zc2, zf0, zf1, zf2⟩ := ZD3 BKX
  go_wp2_with fail
  refine start_ (n := 5) (S := fun w' => w'.cell? ⟨gX, 0, none⟩ = some (.int .i64 a0_0) ∧ w'.cell? ⟨gX, 1, none⟩ = some (.slice Ax l0_1.length cx) ∧ w'.cell? ⟨gX, 2, none⟩ = some (.slice Ay l0_2.length cy) ∧ w'.cell? ⟨gA, 0, none⟩ = some (.int .i64 a0_0) ∧ w'.cell? ⟨gA, 1, none⟩ = some (.slice A0_1 l0_1.length c0_1) ∧ w'.cell? ⟨gA, 2, none⟩ = some (.slice A0_2 l0_2.length c0_2)) (ds := []) #[false, false, false, false, false] (by kernel_rfl) rfl rfl ⟨(blk_cell BKX.out 0).trans rfl, (blk_cell BKX.out 1).trans rfl, (blk_cell BKX.out 2).trans rfl, (blk_cell BKA.out 0).trans rfl, (blk_cell BKA.out 1).trans rfl, (blk_cell BKA.out 2).trans rfl⟩ (fun hHeld => ?_)
  have hbd : Below wI.heap.size wI wI.drew := below_drew (Below.refl wI.heap.size wI)
  replace BKA := ZL BKA hbd
  replace BKX := ZL BKX hbd
  replace HB := Aside0.mk (below_step HB.out hbd)
  replace HBD := Aside0.mk (below_step HBD.out hbd)
  replace HBG := Aside0.mk (below_step HBG.out hbd)
  replace HW0 := Aside0.mk (Kd.N_below HW0.out hbd)
  replace HXa := Aside0.mk (Kd.R_below HXa.out hbd)
  replace HXb := Aside0.mk (Kd.R_below HXb.out hbd)
  replace HG := Aside0.mk (Kd.S_below HG.out hbd)
  clear hbd yc0 yc1 yc2 yf0 yf1 yf2 zc0 zc1 zc2 zf0 zf1 zf2
  generalize wI.drew = wJ at BKA BKX HB HBD HBG HW0 HXa HXb HG hHeld ⊢
  refine Zt6 0 (some 49) hHeld (h := ?_)
  refine Zt6 1 (some 50) hHeld (h := ?_)
  refine one_ (i := 2) (N := some 51) #[true, true, true, false, false] rfl rfl (by kernel_rfl) (by decide) (fun K hK => ?_)
  refine goes_ Try.func16 (by kernel_rfl) rfl #[.agg #[.int .i64 a0_0, .slice A0_1 l0_1.length c0_1, .slice A0_2 l0_2.length c0_2]] (by rfl) rfl rfl ZA ?_
  with_reducible refine (laws_toJacobi.calls k a0_0 _ _ l0_1 _ _ l0_2 a0_0 l0_1 l0_2 _ ?side1 hc0_1 ?side3 hc0_2 A2.out).mono ?_
  (case side1 => exact ZC HR0_1)
  (case side3 => exact ZC HR0_2)
  rintro e wK ⟨v1, v2, rfl, h1, h2, hb⟩
  refine ⟨_, rfl, ?_⟩
  replace BKA := ZL BKA hb
  replace BKX := ZL BKX hb
  replace HB := Aside0.mk (below_step HB.out hb)
  replace HBD := Aside0.mk (below_step HBD.out hb)
  replace HBG := Aside0.mk (below_step HBG.out hb)
  replace HW0 := Aside0.mk (Kd.N_below HW0.out hb)
  replace HXa := Aside0.mk (Kd.R_below HXa.out hb)
  replace HXb := Aside0.mk (Kd.R_below HXb.out hb)
  replace HG := Aside0.mk (Kd.S_below HG.out hb)
  clear hb
  obtain ⟨A1', c1', rfl⟩ := Kd.R_slice h1
  obtain ⟨A2', c2', rfl⟩ := Kd.R_slice h2
  have H1 := Aside0.mk h1
  have H2 := Aside0.mk h2
  clear h1 h2
  refine hK.out _ _ ⟨(blk_cell BKX.out 0).trans rfl, (blk_cell BKX.out 1).trans rfl, (blk_cell BKX.out 2).trans rfl, (blk_cell BKA.out 0).trans rfl, (blk_cell BKA.out 1).trans rfl, (blk_cell BKA.out 2).trans rfl⟩ (fun hHeld => ?_)
  clear hK K
  refine norm_ (a' := ?_) ?_ ?_
  rotate_left
  · show Act.put _ (some 51) _ = _
    simp only [Act.put, List.setIfInBounds_toArray, List.set_cons_zero, List.set_cons_succ, i64_w, i32_w]
    rfl
  refine one_ (i := 3) (N := some 52) #[true, true, true, true, false] rfl rfl (by kernel_rfl) (by decide) (fun K hK => ?_)
  refine goes_ Try.func19 (by kernel_rfl) rfl #[.agg #[.int .i64 a0_0, .slice Ax l0_1.length cx, .slice Ay l0_2.length cy], .agg #[.int .i64 a0_0, .slice A1' l0_1.length c1', .slice A2' l0_2.length c2']] (by rfl) rfl rfl ZA ?_
  with_reducible refine (laws_eqJacobi.calls k a0_0 _ _ l0_1 _ _ l0_2 a0_0 _ _ l0_1 _ _ l0_2 true _ (Kd.R_reads' HXa.out).2.2 (Kd.R_reads' HXa.out).2.1 (Kd.R_reads' HXb.out).2.2 (Kd.R_reads' HXb.out).2.1 (Kd.R_reads' H1.out).2.2 (Kd.R_reads' H1.out).2.1 (Kd.R_reads' H2.out).2.2 (Kd.R_reads' H2.out).2.1 A6.out).mono ?_
  rintro e wL ⟨rfl, hb⟩
  refine ⟨_, rfl, ?_⟩
  replace BKA := ZL BKA hb
  replace BKX := ZL BKX hb
  replace HB := Aside0.mk (below_step HB.out hb)
  replace HBD := Aside0.mk (below_step HBD.out hb)
  replace HBG := Aside0.mk (below_step HBG.out hb)
  replace HW0 := Aside0.mk (Kd.N_below HW0.out hb)
  replace HXa := Aside0.mk (Kd.R_below HXa.out hb)
  replace HXb := Aside0.mk (Kd.R_below HXb.out hb)
  replace HG := Aside0.mk (Kd.S_below HG.out hb)
  clear hb H1 H2
  refine hK.out _ _ ⟨(blk_cell BKX.out 0).trans rfl, (blk_cell BKX.out 1).trans rfl, (blk_cell BKX.out 2).trans rfl, (blk_cell BKA.out 0).trans rfl, (blk_cell BKA.out 1).trans rfl, (blk_cell BKA.out 2).trans rfl⟩ (fun hHeld => ?_)
  clear hK K
  refine norm_ (a' := ?_) ?_ ?_
  rotate_left
  · show Act.put _ (some 52) _ = _
    simp only [Act.put, List.setIfInBounds_toArray, List.set_cons_zero, List.set_cons_succ, i64_w, i32_w]
    rfl
  refine Zp 4 (some 53) (h := ?_)
  refine done_ (by kernel_rfl) ?_
  clear hHeld
  obtain ⟨yc0, yc1, yc2, yf0, yf1, yf2⟩ := ZD3 BKA
  obtain ⟨zc0, zc1, zc2, zf0, zf1, zf2⟩ := ZD3 BKX
  go_wp2_with fail
  refine (laws_markJacobi.calls k a0_0 _ _ l0_1 _ _ l0_2 1 m ma mb wD wL HBD.out (Kd.R_tight rfl HXa.out) (fun q e e2 => HXa.out.1 q e.symm e2) (Kd.R_tight rfl HXb.out) (fun q e e2 => HXa.out.1 q e2.symm e) A7.out).mono ?_
  rintro e wM ⟨rfl, h1, h2, hbd, hkp⟩
  have hw2 := Kd.N_step HW0.out (w1 := wM) (fun q ho _ => (hbd.block q ho).trans (HBD.out.block q ho).symm)
  have hg2 := Kd.S_step HG.out (w1 := wM) (fun q ho hlt => hkp.2 q hlt (fun hp => hp.elim (fun e => Nat.lt_irrefl _ (Nat.lt_of_lt_of_le (HLa.out q e.symm) ho)) (fun e => Nat.lt_irrefl _ (Nat.lt_of_lt_of_le (HLb.out q e.symm) ho))))
  have hb2 : Below w.heap.size w wM := ⟨hbd.os.trans (HBD.out.os.symm.trans HB.out.os), hbd.tape.trans (HBD.out.tape.symm.trans HB.out.tape), hbd.output.trans (HBD.out.output.symm.trans HB.out.output), Nat.le_trans HB.out.size hkp.1, fun q hq => (hbd.block q (Nat.lt_of_lt_of_le hq HSD.out)).trans ((HBD.out.block q (Nat.lt_of_lt_of_le hq HSD.out)).symm.trans (HB.out.block q hq))⟩
  have ba2 := (hkp.2 gA (blk_lt BKA.out) (fun hp => hp.elim (Kd.R_ne HXa.out BKA.out (by decide)) (Kd.R_ne HXb.out BKA.out (by decide)))).trans BKA.out
  have hgm : wG.heap.size ≤ wM.heap.size := Nat.le_trans HBG.out.size hkp.1
  clear HXa HXb BKX BKA HW0 HG HB HBD HBG HDG HLa HLb h1 h2 hbd hkp yc0 yc1 yc2 yf0 yf1 yf2 zc0 zc1 zc2 zf0 zf1 zf2
  have HW0 := Aside0.mk hw2
  have HG := Aside0.mk hg2
  have HB := Aside0.mk hb2
  have BKA := Aside0.mk ba2
  have HGM := Aside0.mk hgm
  clear hw2 hg2 hb2 ba2 hgm
  obtain ⟨yc0, yc1, yc2, yf0, yf1, yf2⟩ := ZD3 BKA
  go_wp2_with fail
  refine (laws_eqJacobiS.calls k _ _ tri _ _ tri true wM (jkA_C (Kd.S_reads' HG.out).2.2) HC2.out (Kd.N_reads' HW0.out).2.2 (Kd.N_reads' HW0.out).2.1 A5.out).mono ?_
  rintro e wN ⟨rfl, hd⟩
  have hb := hd
  replace BKA := ZL BKA hb
  replace HB := Aside0.mk (below_step HB.out hb)
  replace HW0 := Aside0.mk (Kd.N_below HW0.out hb)
  replace HG := Aside0.mk (Kd.S_below HG.out hb)
  replace HGM := Aside0.mk (Nat.le_trans HGM.out hb.size)
  clear hb hd yc0 yc1 yc2 yf0 yf1 yf2
  obtain ⟨yc0, yc1, yc2, yf0, yf1, yf2⟩ := ZD3 BKA
  go_wp2_with fail
  refine (hand_markJs_at k wG.heap.size _ Ag c2 tri 1 t tri2 wN HGM.out HG.out A8.out).mono ?_
  rintro e wO ⟨rfl, hg3, hbg⟩
  have hw3 := Kd.N_step HW0.out (w1 := wO) (fun q ho _ => hbg.block q (Nat.lt_of_lt_of_le ho HDK.out))
  have hb3 : Below w.heap.size w wO := ⟨hbg.os.trans HB.out.os, hbg.tape.trans HB.out.tape, hbg.output.trans HB.out.output, Nat.le_trans HB.out.size hbg.size, fun q hq => (hbg.block q (Nat.lt_of_lt_of_le hq (Nat.le_trans HSD.out HDK.out))).trans (HB.out.block q hq)⟩
  have ba3 := (hbg.block gA HGA.out).trans BKA.out
  have hl3 := Aside0.mk (Kd.S_reads' hg3).1
  clear HW0 HG HB BKA HGM HGA HDK HSD yc0 yc1 yc2 yf0 yf1 yf2
  have HW0 := Aside0.mk hw3
  have HG := Aside0.mk hg3
  have HB := Aside0.mk hb3
  have BKA := Aside0.mk ba3
  clear hw3 hg3 hb3 ba3 hbg
  obtain ⟨yc0, yc1, yc2, yf0, yf1, yf2⟩ := ZD3 BKA
  have HHP : ∀ wq : World, Aside0 (Kd.C k29 wq Ag tri2.length tri2) → Calls Try.prog 48 #[.slice Ag tri.length c2, .int .i64 1] wq fun e w' => e = .returned (.int .i64 t) ∧ Drawn0 wq w' := fun wq hq => by
    have h1 := hl3.out
    have h2 := hq.out
    have h3 := HC2.out
    rw [h1] at h3 ⊢
    exact laws_heldJacobiS.calls k _ _ tri2 1 t wq h2 h3 A9.out
  go_wp2_with fail
  refine (HHP wO ⟨(jkA_C (Kd.S_reads' HG.out).2.2)⟩).mono ?_
  rintro e wP ⟨rfl, hd⟩
  have hb := hd.below
  replace BKA := ZL BKA hb
  replace HB := Aside0.mk (below_step HB.out hb)
  replace HW0 := Aside0.mk (Kd.N_below HW0.out hb)
  replace HG := Aside0.mk (Kd.S_below HG.out hb)
  clear hb hd yc0 yc1 yc2 yf0 yf1 yf2
  obtain ⟨yc0, yc1, yc2, yf0, yf1, yf2⟩ := ZD3 BKA
  go_wp2_with fail
  refine (laws_toJacobi.calls k a0_0 _ _ l0_1 _ _ l0_2 a0_0 l0_1 l0_2 _ ?side1 hc0_1 ?side3 hc0_2 A2.out).mono ?_
  (case side1 => exact ZE HR0_1)
  (case side3 => exact ZE HR0_2)
  rintro e wQ ⟨va, vb, rfl, ha, hb2, hb⟩
  replace BKA := ZL BKA hb
  replace HB := Aside0.mk (below_step HB.out hb)
  replace HW0 := Aside0.mk (Kd.N_below HW0.out hb)
  replace HG := Aside0.mk (Kd.S_below HG.out hb)
  clear hb yc0 yc1 yc2 yf0 yf1 yf2
  obtain ⟨Au, cu, rfl⟩ := Kd.R_slice ha
  obtain ⟨Av, cv, rfl⟩ := Kd.R_slice hb2
  have HJa := Aside0.mk ha
  have HJb := Aside0.mk hb2
  clear ha hb2
  obtain ⟨yc0, yc1, yc2, yf0, yf1, yf2⟩ := ZD3 BKA
  go_wp2_with fail
  refine (impl_StepsOfJacobi.callsC k a0_0 _ _ l0_1 _ _ l0_2 a1 a2 tri code _ (Kd.R_reads' HJa.out).2.2 (Kd.R_reads' HJa.out).2.1 (Kd.R_reads' HJb.out).2.2 (Kd.R_reads' HJb.out).2.1 A4.out).mono ?_
  rintro e wR ⟨Ah, ch2, rfl, hh2, hh, hb⟩
  replace BKA := ZL BKA hb
  replace HB := Aside0.mk (below_step HB.out hb)
  replace HW0 := Aside0.mk (Kd.N_below HW0.out hb)
  replace HG := Aside0.mk (Kd.S_below HG.out hb)
  clear hb yc0 yc1 yc2 yf0 yf1 yf2 HJa HJb
  have HH := Aside0.mk hh
  have HH2 := Aside0.mk hh2
  clear hh hh2
  obtain ⟨yc0, yc1, yc2, yf0, yf1, yf2⟩ := ZD3 BKA
  go_wp2_with fail
  refine (laws_eqJacobiS.calls k _ _ tri _ _ tri true wR (jkA_C (Kd.S_reads' HH.out).2.2) HH2.out (Kd.N_reads' HW0.out).2.2 (Kd.N_reads' HW0.out).2.1 A5.out).mono ?_
  rintro e wS ⟨rfl, hd⟩
  have hb := hd
  replace BKA := ZL BKA hb
  replace HB := Aside0.mk (below_step HB.out hb)
  replace HG := Aside0.mk (Kd.S_below HG.out hb)
  clear hb hd yc0 yc1 yc2 yf0 yf1 yf2 HH HH2 HW0
  obtain ⟨yc0, yc1, yc2, yf0, yf1, yf2⟩ := ZD3 BKA
  go_wp2_with fail
  refine (HHP wS ⟨(jkA_C (Kd.S_reads' HG.out).2.2)⟩).mono ?_
  rintro e wT ⟨rfl, hd⟩
  have hb := hd.below
  replace BKA := ZL BKA hb
  replace HB := Aside0.mk (below_step HB.out hb)
  clear hb hd yc0 yc1 yc2 yf0 yf1 yf2 HG
  obtain ⟨yc0, yc1, yc2, yf0, yf1, yf2⟩ := ZD3 BKA
  go_wp2_with fail
  go_ret
  exact ⟨rfl, HB.out⟩
set_option maxHeartbeats 8000000 in
set_option maxRecDepth 100000 in
theorem hand_steps_neg (a0_0 : Int) (A0_1 : Option Addr) (c0_1 : Nat) (l0_1 : List Int) (A0_2 : Option Addr) (c0_2 : Nat) (l0_2 : List Int) (a1 a2 : Int) (z : Int) (w : World)
    (hr0_1 : Kd.C (Kd.int .i64) w A0_1 l0_1.length l0_1) (hc0_1 : l0_1.length ≤ c0_1) (hr0_2 : Kd.C (Kd.int .i64) w A0_2 l0_2.length l0_2) (hc0_2 : l0_2.length ≤ c0_2)
    (hsz : laws_szJacobi.f a0_0 l0_1 l0_2 1048576 = some z) (hz : z < 0) :
    Calls Try.prog 12 #[.agg #[.int .i64 a0_0, .slice A0_1 l0_1.length c0_1, .slice A0_2 l0_2.length c0_2], .int .i64 a1, .int .i64 a2] w fun e w' => e = .returned (.bool true) ∧ Below w.heap.size w w' := by
  have HR0_1 := Aside0.mk hr0_1
  have HR0_2 := Aside0.mk hr0_2
  have HB := Aside0.mk (Below.refl w.heap.size w)
  have hz0 : decide (z < 0) = true := decide_eq_true hz
  have A1 := Aside0.mk hsz
  clear hsz hz hr0_1 hr0_2
  go_enter Try.func12, Try.ntmps12
  go_wp2_with (first | ((with_reducible refine gate_dst (N := 3) rfl ?_); refine box_event ?hg (N := 3) ?hd (cs := #[.int .i64 a0_0, .slice A0_1 l0_1.length c0_1, .slice A0_2 l0_2.length c0_2]) (t := 24) ?hr ?_; (case hd => rfl); (case hg => rfl); (case hr => first | (go_simp; done) | (go_simp; rfl)); intro gA hgA wA hbox hb; have BKA := Aside0.mk hbox; have GEA := Aside0.mk (ZG hgA : w.heap.size ≤ gA); replace HB := Aside0.mk (below_step ZB hb); clear hb hbox hgA; obtain ⟨qc0, qc1, qc2, qf0, qf1, qf2⟩ := ZD3 BKA) | ((with_reducible refine gate_callee (f := 14) rfl ?_); refine goesL_ (some 20) rfl rfl Try.func14 (by kernel_rfl) rfl #[.agg #[.int .i64 a0_0, .slice A0_1 l0_1.length c0_1, .slice A0_2 l0_2.length c0_2], .int .i64 1048576] rfl ZA ?_; (with_reducible refine (laws_szJacobi.calls a0_0 _ _ l0_1 _ _ l0_2 1048576 z _ ?side1 hc0_1 ?side3 hc0_2 A1.out).mono ?_); (case side1 => exact ZE HR0_1); (case side3 => exact ZE HR0_2); rintro e wB ⟨rfl, hb⟩; refine ⟨_, rfl, ?_⟩; replace BKA := ZL BKA hb; replace HB := Aside0.mk (below_step ZB hb); clear hb; obtain ⟨rc0, rc1, rc2, rf0, rf1, rf2⟩ := ZD3 BKA))
  go_ret
  exact ⟨rfl, HB.out⟩
open Classical in
/-- true where the plain answers are as the law's walk needs them. -/
noncomputable def laws_FnExactStepsOfJacobi.f (k : Nat) (a0_0 : Int) (l0_1 l0_2 : List Int) (a1 a2 : Int) : Option Bool :=
  if (∃ z, laws_szJacobi.f a0_0 l0_1 l0_2 1048576 = some z ∧ z < 0) ∨ (∃ (z m t : Int) (tri tri2 : List S29) (code : Int) (ma mb : List Int),
    laws_szJacobi.f a0_0 l0_1 l0_2 1048576 = some z ∧ 0 ≤ z ∧ laws_toJacobi.f k a0_0 l0_1 l0_2 = some (a0_0, l0_1, l0_2) ∧
    spec_StepsOfJacobi.f k a0_0 l0_1 l0_2 a1 a2 = some (tri, code) ∧ impl_StepsOfJacobi.f k a0_0 l0_1 l0_2 a1 a2 = some (tri, code) ∧
    laws_eqJacobiS.f k tri tri = some true ∧ laws_eqJacobi.f k a0_0 l0_1 l0_2 a0_0 l0_1 l0_2 = some true ∧
    laws_markJacobi.f k a0_0 l0_1 l0_2 1 = some (m, ma, mb) ∧ 0 ≤ m ∧ laws_markJacobiS.f k tri 1 = some (t, tri2) ∧ laws_heldJacobiS.f k tri2 1 = some t ∧ 0 ≤ t)
  then some true else none
theorem laws_FnExactStepsOfJacobi.calls (k : Nat) (a0_0 : Int) (A0_1 : Option Addr) (c0_1 : Nat) (l0_1 : List Int) (A0_2 : Option Addr) (c0_2 : Nat) (l0_2 : List Int) (a1 a2 : Int) (r : Bool) (w : World)
    (hr0_1 : Kd.C (Kd.int .i64) w A0_1 l0_1.length l0_1) (hc0_1 : l0_1.length ≤ c0_1) (hr0_2 : Kd.C (Kd.int .i64) w A0_2 l0_2.length l0_2) (hc0_2 : l0_2.length ≤ c0_2) (hT : Aside0 (r = true)) (h : laws_FnExactStepsOfJacobi.f k a0_0 l0_1 l0_2 a1 a2 = some r) :
    Calls Try.prog 12 #[.agg #[.int .i64 a0_0, .slice A0_1 l0_1.length c0_1, .slice A0_2 l0_2.length c0_2], .int .i64 a1, .int .i64 a2] w fun e w' => e = .returned (.bool r) ∧ Below w.heap.size w w' := by
  obtain rfl := hT.out
  unfold laws_FnExactStepsOfJacobi.f at h
  split at h
  · next hc =>
    rcases hc with ⟨z, hsz, hz⟩ | ⟨z, m, t, tri, tri2, code, ma, mb, h1, h2, h3, h4, h5, h6, h7, h8, h9, h10, h11, h12⟩
    · exact hand_steps_neg a0_0 A0_1 c0_1 l0_1 A0_2 c0_2 l0_2 a1 a2 z w hr0_1 hc0_1 hr0_2 hc0_2 hsz hz
    · exact hand_steps k a0_0 A0_1 c0_1 l0_1 A0_2 c0_2 l0_2 a1 a2 z m t tri tri2 code ma mb w hr0_1 hc0_1 hr0_2 hc0_2 h1 h2 h3 h4 h5 h6 h7 h8 h9 h10 h11 h12
  · cases h
end Go.Proofs.Ytaclapojgdekpaa.X
