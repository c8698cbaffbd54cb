/- Rows of Jacobi data whose lists all lie apart: the kind, and marks into them. No conditions but the plain answer. -/
import Derived.Test.YtaclapojgdekpaaCStepsOfJacobiX10
import Derived.Test.YtaclapojgdekpaaCStepsOfJacobiX42
namespace Go.Proofs.Ytaclapojgdekpaa.X
open Go.RowKit Go.Proofs.YtaclapojgdekpaaW.PrintWords Go.Proofs.YtaclapojgdekpaaW.PrintLast Go.Proofs.YtaclapojgdekpaaW.PrintMore
set_option linter.unusedVariables false
set_option linter.unusedSimpArgs false
/-- Jacobi data whose two lists lie apart. -/
def jkA : Kd S29 where
  sz := k29.sz
  E := k29.E
  K := k29.K
  M := fun w base ok x cs => ∃ v1 v2, cs = [.int .i64 x.f0, v1, v2] ∧ (Kd.int .i64).R 2 w base (fun k => ok k ∧ some k ≠ v2.ownBlock) v1 x.f1 ∧ (Kd.int .i64).R 2 w base (fun k => ok k ∧ some k ≠ v1.ownBlock) v2 x.f2
  K_len := k29.K_len
  K_one := k29.K_one
  K_below := k29.K_below
  K_of_M := by
    rintro w base ok x cs ⟨v1, v2, rfl, h1, h2⟩
    exact k29.K_of_M (k29_mkM w base ok x (Kd.R_mono h1 (fun _ h => h.1)) (Kd.R_mono h2 (fun _ h => h.1)))
  M_mono := by
    rintro w base ok ok' x cs hok ⟨v1, v2, rfl, h1, h2⟩
    exact ⟨v1, v2, rfl, Kd.R_mono h1 (fun k h => ⟨hok k h.1, h.2⟩), Kd.R_mono h2 (fun k h => ⟨hok k h.1, h.2⟩)⟩
  M_bound := by
    rintro w base ok x cs ⟨v1, v2, rfl, h1, h2⟩
    refine ⟨v1, v2, rfl, Kd.R_mono (Kd.R_bound h1) ?_, Kd.R_mono (Kd.R_bound h2) ?_⟩
    · rintro k ⟨⟨ha, hb⟩, hc, hd, q, hq, he⟩
      exact ⟨⟨ha, hc, hd, q, by
        have : q = 2 := by simpa [Kd.int, Kd.scalar] using hq
        subst this; decide, he⟩, hb⟩
    · rintro k ⟨⟨ha, hb⟩, hc, hd, q, hq, he⟩
      exact ⟨⟨ha, hc, hd, q, by
        have : q = 2 := by simpa [Kd.int, Kd.scalar] using hq
        subst this; decide, he⟩, hb⟩
  M_move := by
    rintro w w1 base ok x cs hm ⟨v1, v2, rfl, h1, h2⟩
    exact ⟨v1, v2, rfl, Kd.R_move h1 (fun k h => hm k h.1), Kd.R_move h2 (fun k h => hm k h.1)⟩
  M_lower := by
    rintro w base base' ok x cs hb ⟨v1, v2, rfl, h1, h2⟩
    exact ⟨v1, v2, rfl, Kd.R_lower h1 hb, Kd.R_lower h2 hb⟩
theorem jkA_C {w : World} {A : Option Addr} {n : Nat} {xs : List S29} (h : jkA.C w A n xs) : k29.C w A n xs := h
/-- markJacobiS on lists. -/
def laws_markJacobiS.f (k : Nat) : List S29 → Int → Option (Int × List S29)
  | [], a => some (a, [])
  | r :: rs, a => (laws_markInt64S.f k r.f1 (wrap64 (a + 1))).bind fun z => (laws_markInt64S.f k r.f2 z.1).bind fun y => (laws_markJacobiS.f k rs y.1).bind fun q => some (q.1, ⟨a, z.2, y.2⟩ :: q.2)
set_option maxHeartbeats 2000000 in
set_option maxRecDepth 100000 in
theorem hand_markJs (k : Nat) (P0_ : Nat → Prop) (A : Option Addr) (c : Nat) (l0 : List S29) (a1 : Int) (r1 : Int) (r2 : List S29) (w0 w : World) (hB : Below w0.heap.size w0 w) (ho0 : Kd.S jkA 29 w w0.heap.size P0_ (.slice A l0.length c) l0) (h : laws_markJacobiS.f k l0 a1 = some (r1, r2)) :
    Calls Try.prog 47 #[.slice A l0.length c, .int .i64 a1] w fun e w' => e = .returned (.int .i64 r1) ∧ Kd.S jkA 29 w' w0.heap.size (fun k_ => (P0_ k_ ∨ w.heap.size ≤ k_)) (.slice A l0.length c) r2 ∧ Below w0.heap.size w0 w' ∧ Kept w w' (fun k_ => P0_ k_) := by
  have hmax : l0.length ≤ 9223372036854775807 := (Kd.S_reads' ho0).2.2.2.1
  have HO := Aside0.mk (Kd.S_mono (ok' := fun k_ => P0_ k_ ∨ w.heap.size ≤ k_) ho0 (fun _ hk => .inl hk))
  have HB := Aside0.mk hB
  have HF := Aside0.mk h
  clear ho0 hB h
  go_enter Try.func47, Try.ntmps47
  go_wp2
  go_loopw [1, 5] (fun kv iv wr => ∃ (j : Nat) (a : Int) (done rest : List S29), iv = .int .i64 j ∧ kv = .int .i64 a ∧ done.length = j ∧ j ≤ l0.length ∧ r2 = done ++ rest ∧ Aside0 (laws_markJacobiS.f k (l0.drop j) a = some (r1, rest)) ∧ Aside0 (Kd.S jkA 29 wr w0.heap.size (fun k_ => P0_ k_ ∨ w.heap.size ≤ k_) (.slice A l0.length c) (done ++ l0.drop j)) ∧ Aside0 (Below w0.heap.size w0 wr) ∧ Aside0 (Kept w wr (fun k_ => P0_ k_)))
    (fun _ iv _ => l0.length - (intOf iv).toNat)
  case atStart => exact ⟨0, a1, [], r2, rfl, rfl, rfl, Nat.zero_le _, rfl, HF, HO, HB, ⟨Kept.refl _ _⟩⟩
  case round =>
    obtain ⟨j, a, done, rest, rfl, rfl, hj, hle, hr2, HN, HS, HW, HK⟩ := hrel
    by_cases hlt : j < l0.length
    · obtain ⟨g, cap, e, hg1, hg2, _⟩ := Kd.S_form HS.out (by rw [List.length_append, List.length_drop]; omega)
      injection e with eA en ec
      subst eA
      obtain ⟨oki, cs, hcl, hM, hcc, hfr, hoki, hH⟩ := Kd.S_elem HS.out z29 (j : Int) (by omega) (by omega)
      obtain ⟨v1, v2, rfl, hR1, hR2⟩ := hM
      have hrow : (done ++ l0.drop j).getD ((j : Int)).toNat z29 = l0[j] := by
        simp [List.getD_eq_getElem?_getD, List.getElem?_append_right, hj, hlt]
      rw [hrow] at hR1 hR2
      have hx0 : wr.cell? ⟨g, j * 3, none⟩ = some (.int .i64 ((done ++ l0.drop j).getD ((j : Int)).toNat z29).f0) := hcc 0 _ rfl
      have hf0 : wr.frozen? ⟨g, j * 3, none⟩ = false := hfr 0
      have hx1 : wr.cell? ⟨g, j * 3 + 1, none⟩ = some v1 := hcc 1 _ rfl
      have hn := HN.out
      rw [List.drop_eq_getElem_cons hlt] at hn
      simp only [laws_markJacobiS.f] at hn
      obtain ⟨z, hz, hn⟩ := Option.bind_eq_some_iff.1 hn
      obtain ⟨y, hy, hn⟩ := Option.bind_eq_some_iff.1 hn
      obtain ⟨q, hq, hn⟩ := Option.bind_eq_some_iff.1 hn
      obtain ⟨rfl, rfl⟩ : q.1 = r1 ∧ (⟨a, z.2, y.2⟩ : S29) :: q.2 = rest := by simpa using hn
      have HH := Aside0.mk hH
      have HKI := Aside0.mk hoki
      have HY := Aside0.mk hy
      have HZ := Aside0.mk hz
      have HQ := Aside0.mk hq
      have HD := Aside0.mk hj
      have HR2 := Aside0.mk hr2
      have HG := Aside0.mk (And.intro hg1 hg2)
      have H1 := Aside0.mk hR1
      have H2 := Aside0.mk hR2
      clear hn hz hy hq hH hoki hR1 hR2 hcc hfr hrow hj hr2 hg1 hg2 hcl en ec hle
      have hB1 := Aside0.mk (below_set HW.out HG.out.1 : Below w0.heap.size w0 (wr.setCell ⟨g, j * 3, none⟩ (.int .i64 a)))
      have hap : ∀ q_, v1.ownBlock = some q_ → v2.ownBlock = some q_ → False := fun q_ e1 e2 => (H1.out.1 q_ e1).2 e2.symm
      obtain ⟨hS1, hG1⟩ := Kd.H_seg HH.out (by omega) (by omega) (seg := [.int .i64 a]) (j := 0) (show 0 + 1 ≤ 3 from by decide) (by intro q_ hq_; rw [List.mem_singleton.1 hq_]; rfl)
      have HH1 : Aside0 (Kd.H jkA 29 (wr.setCell ⟨g, j * 3, none⟩ (.int .i64 a)) w0.heap.size (fun k_ => P0_ k_ ∨ w.heap.size ≤ k_) (.slice (some ⟨g, 0, none⟩) l0.length c) (done ++ l0.drop j) (j : Int) oki [.int .i64 a, v1, v2]) := ⟨hS1⟩
      have HT1 := Aside0.mk (Kd.R_tight rfl (Kd.R_grown H1.out hG1 (fun k_ hk => fun e_ => (HKI.out k_ hk.1).2 (by injection e_))))
      have HT2 := Aside0.mk (Kd.R_tight rfl (Kd.R_grown H2.out hG1 (fun k_ hk => fun e_ => (HKI.out k_ hk.1).2 (by injection e_))))
      have HO1 := Aside0.mk (fun q_ (e1 : v1.ownBlock = some q_) => (H1.out.1 q_ e1).1)
      have HO2 := Aside0.mk (fun q_ (e1 : v2.ownBlock = some q_) => (H2.out.1 q_ e1).1)
      have HAP := Aside0.mk hap
      have HK1 : Aside0 (Kept w (wr.setCell ⟨g, j * 3, none⟩ (.int .i64 a)) (fun k_ => P0_ k_)) := ⟨HK.out.of_grown hG1 (fun k_ e_ => by
        obtain rfl : g = k_ := by injection e_
        exact (Kd.S_R HS.out).1 g rfl)⟩
      clear hap hS1 hG1 HH H1 H2
      go_wp2_with fail
      refine (laws_markInt64S.calls k (fun k_ => some k_ = v1.ownBlock) v1 _ _ z.1 z.2 w0 _ hB1.out HT1.out HZ.out).mono ?_
      rintro e w2 ⟨rfl, hR3, hB3, hK3⟩
      have HU1 := Aside0.mk (Kd.R_tight rfl hR3)
      have HU2 := Aside0.mk (Kd.R_tight rfl (Kd.R_step HT2.out (fun q_ ho hlt_ => hK3.2 q_ hlt_ (fun e1 => HAP.out q_ e1.symm ho.symm))))
      have HH2 := Aside0.mk (Kd.H_step HH1.out (w1 := w2) (fun q_ ho hn_ hlt_ => hK3.2 q_ hlt_ (fun e1 => hn_ (HO1.out q_ e1.symm))))
      have HK2 : Aside0 (Kept w w2 (fun k_ => P0_ k_)) := ⟨HK1.out.then_ hK3 (fun q_ hq_ => (HKI.out q_ (HO1.out q_ hq_.symm)).1)⟩
      have hx2 : w2.cell? ⟨g, j * 3 + 2, none⟩ = some v2 := (Kd.H_at HH2.out (by omega) (by omega)).1 2 _ rfl
      have HB2 := Aside0.mk hB3
      clear hR3 hB3 hK3 HT1 HT2 HH1 hx0 hx1 hf0
      go_wp2_with fail
      refine (laws_markInt64S.calls k (fun k_ => some k_ = v2.ownBlock) v2 _ _ y.1 y.2 w0 _ HB2.out HU2.out HY.out).mono ?_
      rintro e w3 ⟨rfl, hR3, hB3, hK3⟩
      have HV2 := Aside0.mk (Kd.R_tight rfl hR3)
      have HV1 := Aside0.mk (Kd.R_tight rfl (Kd.R_step HU1.out (fun q_ ho hlt_ => hK3.2 q_ hlt_ (fun e1 => HAP.out q_ ho.symm e1.symm))))
      have HH3 := Aside0.mk (Kd.H_step HH2.out (w1 := w3) (fun q_ ho hn_ hlt_ => hK3.2 q_ hlt_ (fun e1 => hn_ (HO2.out q_ e1.symm))))
      have HK3 : Aside0 (Kept w w3 (fun k_ => P0_ k_)) := ⟨HK2.out.then_ hK3 (fun q_ hq_ => (HKI.out q_ (HO2.out q_ hq_.symm)).1)⟩
      have HB3 := Aside0.mk hB3
      clear hR3 hB3 hK3 HU1 HU2 HH2 hx2
      have HS3 : Aside0 (Kd.S jkA 29 w3 w0.heap.size (fun k_ => P0_ k_ ∨ w.heap.size ≤ k_) (.slice (some ⟨g, 0, none⟩) l0.length c) ((done ++ [⟨a, z.2, y.2⟩]) ++ l0.drop (j + 1))) := by
        have h2 := Kd.H_back HH3.out (okp := fun q_ => some q_ = v1.ownBlock ∨ some q_ = v2.ownBlock) (x' := ⟨a, z.2, y.2⟩)
          ⟨v1, v2, rfl, Kd.R_mono HV1.out (fun q_ h_ => ⟨.inl h_, fun e2 => HAP.out q_ h_.symm e2.symm⟩), Kd.R_mono HV2.out (fun q_ h_ => ⟨.inr h_, fun e1 => HAP.out q_ e1.symm h_.symm⟩)⟩
          (fun q_ hq_ => hq_.elim (fun e_ => HO1.out q_ e_.symm) (fun e_ => HO2.out q_ e_.symm))
        have e1 : (done ++ l0.drop j).set ((j : Int)).toNat (⟨a, z.2, y.2⟩ : S29) = (done ++ [⟨a, z.2, y.2⟩]) ++ l0.drop (j + 1) := by
          rw [Int.toNat_natCast, List.set_append_right _ _ (by rw [HD.out]; exact Nat.le_refl _), HD.out, Nat.sub_self, List.drop_eq_getElem_cons hlt, List.set_cons_zero, List.append_assoc]
          rfl
        rw [e1] at h2
        exact ⟨h2⟩
      clear HV1 HV2 HH3
      go_wp2
      go_roundw
      case rel => exact ⟨j + 1, y.1, done ++ [⟨a, z.2, y.2⟩], q.2, by go_num, rfl, by rw [List.length_append, HD.out]; rfl, by omega, by rw [HR2.out]; simp, HQ, HS3, HB3, HK3⟩
      case measure => simp [intOf]; omega
    · obtain rfl : j = l0.length := by omega
      go_wp2
      go_ret
      have hn := HN.out
      rw [List.drop_length] at hn
      obtain ⟨rfl, rfl⟩ : a = r1 ∧ rest = [] := by simpa [laws_markJacobiS.f, eq_comm] using hn
      refine ⟨rfl, ?_, HW.out, HK.out⟩
      have hs := HS.out
      rw [List.drop_length] at hs
      rw [hr2]; exact hs
end Go.Proofs.Ytaclapojgdekpaa.X
