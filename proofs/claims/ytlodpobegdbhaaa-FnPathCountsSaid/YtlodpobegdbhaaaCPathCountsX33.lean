/- Contracts of functions that the law reaches, printed by a program of this session; Lean checks them. -/
import Derived.Test.YtlodpobegdbhaaaCPathCountsX0
import Derived.Test.YtlodpobegdbhaaaCPathCountsX1
import Derived.Test.YtlodpobegdbhaaaCPathCountsX12
import Derived.Test.YtlodpobegdbhaaaCPathCountsX22
import Derived.Test.YtlodpobegdbhaaaCPathCountsX23
import Derived.Test.YtlodpobegdbhaaaCPathCountsX25
import Derived.Test.YtlodpobegdbhaaaCPathCountsX26
import Derived.Test.YtlodpobegdbhaaaCPathCountsX27
import Derived.Test.YtlodpobegdbhaaaCPathCountsX28
import Derived.Test.YtlodpobegdbhaaaCPathCountsX29
import Derived.Test.YtlodpobegdbhaaaCPathCountsX30
import Derived.Test.YtlodpobegdbhaaaCPathCountsX31
import Derived.Test.YtlodpobegdbhaaaCPathCountsX32
import Derived.Test.YtlodpobegdbhaaaCPathCountsXZ
import Derived.Deep.CutRange
namespace Go.Proofs.Ytlodpobegdbhaaa.X
open Go.RowKit Go.Proofs.YtlodpobegdbhaaaW.PrintWords Go.Proofs.YtlodpobegdbhaaaW.PrintLast Go.Proofs.YtlodpobegdbhaaaW.PrintMore
attribute [local go_sem] max2_int min2_int max_two min_two max_three min_three max_four min_four   -- for this text's walks alone
set_option linter.unusedVariables false
set_option linter.unusedSimpArgs false

/-! ### laws_FnPathCounts: function 4 -/
mutual
def laws_FnPathCounts.j0 : Nat → List Int → Int → Int → Int → Int → List ByteArray → Int → List ByteArray → Bool → Option (Bool)
 | 0, _, _, _, _, _, _, _, _, _ => none
 | k + 1, x0, x3, x4, x5, x6, x7, x8, x9, x100 => if x100 = true then (some false) else ((impl_CountPaths.f k x3 x4 x5 x6).bind fun bt1236 => ((impl_CountLevelPaths.f k x3 x4 x5 x6).bind fun bt1238 => (if x8 = 0 then (if bt1236.2 = 0 then (if bt1238.2 = 0 then (if bt1236.1 = (x7.length : Int) then (laws_FnPathCounts.j1 k x0 x3 x4 x5 x7 x9 (decide (bt1238.1 > bt1236.1))) else (laws_FnPathCounts.j1 k x0 x3 x4 x5 x7 x9 true)) else (laws_FnPathCounts.j1 k x0 x3 x4 x5 x7 x9 true)) else (laws_FnPathCounts.j1 k x0 x3 x4 x5 x7 x9 true)) else (laws_FnPathCounts.j1 k x0 x3 x4 x5 x7 x9 false))))
def laws_FnPathCounts.j1 : Nat → List Int → Int → Int → Int → List ByteArray → List ByteArray → Bool → Option (Bool)
 | 0, _, _, _, _, _, _, _ => none
 | k + 1, x0, x3, x4, x5, x7, x9, x137 => if x137 = true then (some false) else (laws_FnPathCounts.l0 k x0 x3 x4 x5 x7 x9 0)
def laws_FnPathCounts.l0 : Nat → List Int → Int → Int → Int → List ByteArray → List ByteArray → Int → Option (Bool)
 | 0, _, _, _, _, _, _, _ => none
 | k + 1, x0, x3, x4, x5, x7, x9, x15 => if x15 < (x7.length : Int) then (if 0 ≤ x15 then ((impl_HeightsOf.f k (rdOf ByteArray.empty x7 x15) x4).bind fun bt1241 => (if x15 < (x9.length : Int) then (if (rdOf ByteArray.empty x7 x15).toList = (rdOf ByteArray.empty x9 x15).toList then (if bt1241.2 = 0 then (if (bt1241.1.length : Int) = (wrap64 (x3 + 1)) then (if 0 ≤ x3 then (if x3 < (bt1241.1.length : Int) then (if (rd bt1241.1 x3) = x5 then (laws_FnPathCounts.l0 k x0 x3 x4 x5 x7 x9 (wrap64 (x15 + 1))) else (some false)) else (none)) else (none)) else (some false)) else (some false)) else (some false)) else (none))) else (none)) else ((spec_DrawReversePath.f k x0).bind fun bt1248 => ((impl_ReversePath.f k bt1248.1 bt1248.2).bind fun bt1250 => ((spec_ReversePath.f k bt1248.1 bt1248.2).bind fun bt1252 => (if bt1250.2 = bt1252.2 then (laws_FnPathCounts.j3 k x0 bt1248.1 bt1248.2 bt1250.1 bt1250.2 (bt1250.1.toList != bt1252.1.toList)) else (laws_FnPathCounts.j3 k x0 bt1248.1 bt1248.2 bt1250.1 bt1250.2 true)))))
def laws_FnPathCounts.j3 : Nat → List Int → ByteArray → Int → ByteArray → Int → Bool → Option (Bool)
 | 0, _, _, _, _, _, _ => none
 | k + 1, x0, x18, x19, x20, x21, x205 => if x205 = true then (some false) else (if x21 = 0 then ((impl_HeightsOf.f k x18 x19).bind fun bt1254 => (if bt1254.2 = 0 then (if 0 ≤ (wrap64 ((bt1254.1.length : Int) - 1)) then (if (wrap64 ((bt1254.1.length : Int) - 1)) < (bt1254.1.length : Int) then (if (rd bt1254.1 (wrap64 ((bt1254.1.length : Int) - 1))) ≤ 24 then ((impl_ReversePath.f k x20 (rd bt1254.1 (wrap64 ((bt1254.1.length : Int) - 1)))).bind fun bt1259 => (if bt1259.2 = 0 then (if bt1259.1.toList = x18.toList then (laws_FnPathCounts.j4 k x0) else (some false)) else (some false))) else (laws_FnPathCounts.j4 k x0)) else (none)) else (none)) else (some false))) else (laws_FnPathCounts.j4 k x0))
def laws_FnPathCounts.j4 : Nat → List Int → Option (Bool)
 | 0, _ => none
 | k + 1, x0 => (spec_DrawBallotNumber.f k x0).bind fun bt1261 => ((impl_BallotNumber.f k bt1261.1 bt1261.2).bind fun bt1263 => ((spec_BallotNumber.f k bt1261.1 bt1261.2).bind fun bt1265 => (if bt1263.2 = bt1265.2 then (laws_FnPathCounts.j5 k x0 bt1261.1 bt1261.2 bt1263.1 bt1263.2 (bt1263.1 != bt1265.1)) else (laws_FnPathCounts.j5 k x0 bt1261.1 bt1261.2 bt1263.1 bt1263.2 true))))
def laws_FnPathCounts.j5 : Nat → List Int → Int → Int → Int → Int → Bool → Option (Bool)
 | 0, _, _, _, _, _, _ => none
 | k + 1, x0, x29, x30, x31, x32, x261 => if x261 = true then (some false) else (if x32 = 0 then ((impl_CountLevelPaths.f k x29 0 x30 24).bind fun bt1267 => (if bt1267.2 = 0 then (if bt1267.1 = x31 then (laws_FnPathCounts.j6 k x0) else (some false)) else (some false))) else (laws_FnPathCounts.j6 k x0))
def laws_FnPathCounts.j6 : Nat → List Int → Option (Bool)
 | 0, _ => none
 | k + 1, x0 => (spec_DrawWeightOfPath.f k x0).bind fun bt1269 => ((impl_WeightOfPath.f k bt1269.1 bt1269.2.1 bt1269.2.2.1 bt1269.2.2.2.1 bt1269.2.2.2.2).bind fun bt1279 => ((spec_WeightOfPath.f k bt1269.1 bt1269.2.1 bt1269.2.2.1 bt1269.2.2.2.1 bt1269.2.2.2.2).bind fun bt1281 => ((spec_DrawCountPaths.f k x0).bind fun bt1283 => ((impl_CountPaths.f k bt1283.1 bt1283.2.1 bt1283.2.2.1 bt1283.2.2.2).bind fun bt1287 => ((spec_CountPaths.f k bt1283.1 bt1283.2.1 bt1283.2.2.1 bt1283.2.2.2).bind fun bt1289 => ((spec_DrawCountLevelPaths.f k x0).bind fun bt1291 => ((impl_CountLevelPaths.f k bt1291.1 bt1291.2.1 bt1291.2.2.1 bt1291.2.2.2).bind fun bt1295 => ((spec_CountLevelPaths.f k bt1291.1 bt1291.2.1 bt1291.2.2.1 bt1291.2.2.2).bind fun bt1297 => ((spec_DrawHeightsOf.f k x0).bind fun bt1299 => ((impl_HeightsOf.f k bt1299.1 bt1299.2).bind fun bt1301 => ((spec_HeightsOf.f k bt1299.1 bt1299.2).bind fun bt1305 => (if bt1279.2 = bt1281.2 then (if bt1279.1 = bt1281.1 then (if bt1287.2 = bt1289.2 then (if bt1287.1 = bt1289.1 then (if bt1295.2 = bt1297.2 then (if bt1295.1 = bt1297.1 then (if bt1301.2 = bt1305.2 then ((laws_likeInts.f k bt1301.1 bt1305.1).bind fun t1309 => (some t1309)) else (some false)) else (some false)) else (some false)) else (some false)) else (some false)) else (some false)) else (some false)))))))))))))
end
def laws_FnPathCounts.f (k : Nat) (l0 : List Int) : Option (Bool) := (laws_big.f l0).bind fun t1223 => (if t1223 = true then (some true) else ((spec_DrawPathsOf.f k l0).bind fun bt1224 => ((impl_PathsOf.f k bt1224.1 bt1224.2.1 bt1224.2.2.1 bt1224.2.2.2).bind fun bt1228 => ((spec_PathsOf.f k bt1224.1 bt1224.2.1 bt1224.2.2.1 bt1224.2.2.2).bind fun bt1232 => (if bt1228.2 = bt1232.2 then (laws_FnPathCounts.j0 k l0 bt1224.1 bt1224.2.1 bt1224.2.2.1 bt1224.2.2.2 bt1228.1 bt1228.2 bt1232.1 ((bt1228.1.length : Int) != (bt1232.1.length : Int))) else (laws_FnPathCounts.j0 k l0 bt1224.1 bt1224.2.1 bt1224.2.2.1 bt1224.2.2.2 bt1228.1 bt1228.2 bt1232.1 true))))))
theorem laws_FnPathCounts.mono_l : ∀ k, (∀ y0 y1 y2 y3 y4 y5 y6 y7 y8, LeO (laws_FnPathCounts.j0 k y0 y1 y2 y3 y4 y5 y6 y7 y8) (laws_FnPathCounts.j0 (k + 1) y0 y1 y2 y3 y4 y5 y6 y7 y8)) ∧ (∀ y0 y1 y2 y3 y4 y5 y6, LeO (laws_FnPathCounts.j1 k y0 y1 y2 y3 y4 y5 y6) (laws_FnPathCounts.j1 (k + 1) y0 y1 y2 y3 y4 y5 y6)) ∧ (∀ y0 y1 y2 y3 y4 y5 y6, LeO (laws_FnPathCounts.l0 k y0 y1 y2 y3 y4 y5 y6) (laws_FnPathCounts.l0 (k + 1) y0 y1 y2 y3 y4 y5 y6)) ∧ (∀ y0 y1 y2 y3 y4 y5, LeO (laws_FnPathCounts.j3 k y0 y1 y2 y3 y4 y5) (laws_FnPathCounts.j3 (k + 1) y0 y1 y2 y3 y4 y5)) ∧ (∀ y0, LeO (laws_FnPathCounts.j4 k y0) (laws_FnPathCounts.j4 (k + 1) y0)) ∧ (∀ y0 y1 y2 y3 y4 y5, LeO (laws_FnPathCounts.j5 k y0 y1 y2 y3 y4 y5) (laws_FnPathCounts.j5 (k + 1) y0 y1 y2 y3 y4 y5)) ∧ (∀ y0, LeO (laws_FnPathCounts.j6 k y0) (laws_FnPathCounts.j6 (k + 1) y0))
 | 0 => ⟨fun _ _ _ _ _ _ _ _ _ r h => by simp [laws_FnPathCounts.j0] at h, fun _ _ _ _ _ _ _ r h => by simp [laws_FnPathCounts.j1] at h, fun _ _ _ _ _ _ _ r h => by simp [laws_FnPathCounts.l0] at h, fun _ _ _ _ _ _ r h => by simp [laws_FnPathCounts.j3] at h, fun _ r h => by simp [laws_FnPathCounts.j4] at h, fun _ _ _ _ _ _ r h => by simp [laws_FnPathCounts.j5] at h, fun _ r h => by simp [laws_FnPathCounts.j6] at h⟩
 | k + 1 => by
  obtain ⟨ih0, ih1, ih2, ih3, ih4, ih5, ih6⟩ := laws_FnPathCounts.mono_l k
  refine ⟨?_, ?_, ?_, ?_, ?_, ?_, ?_⟩
  ·intro y0 y1 y2 y3 y4 y5 y6 y7 y8
   unfold laws_FnPathCounts.j0
   repeat' first
   | (with_reducible exact ih0 _ _ _ _ _ _ _ _ _)
   | (with_reducible exact ih1 _ _ _ _ _ _ _)
   | (with_reducible exact ih2 _ _ _ _ _ _ _)
   | (with_reducible exact ih3 _ _ _ _ _ _)
   | (with_reducible exact ih4 _)
   | (with_reducible exact ih5 _ _ _ _ _ _)
   | (with_reducible exact ih6 _)
   | (with_reducible exact impl_BallotNumber.mono _ _ _)
   | (with_reducible exact impl_CountLevelPaths.mono _ _ _ _ _)
   | (with_reducible exact impl_CountPaths.mono _ _ _ _ _)
   | (with_reducible exact impl_HeightsOf.mono _ _ _)
   | (with_reducible exact impl_PathsOf.mono _ _ _ _ _)
   | (with_reducible exact impl_ReversePath.mono _ _ _)
   | (with_reducible exact impl_WeightOfPath.mono _ _ _ _ _ _)
   | (with_reducible exact laws_likeInts.mono _ _ _)
   | (with_reducible exact spec_BallotNumber.mono _ _ _)
   | (with_reducible exact spec_CountLevelPaths.mono _ _ _ _ _)
   | (with_reducible exact spec_CountPaths.mono _ _ _ _ _)
   | (with_reducible exact spec_DrawBallotNumber.mono _ _)
   | (with_reducible exact spec_DrawCountLevelPaths.mono _ _)
   | (with_reducible exact spec_DrawCountPaths.mono _ _)
   | (with_reducible exact spec_DrawHeightsOf.mono _ _)
   | (with_reducible exact spec_DrawPathsOf.mono _ _)
   | (with_reducible exact spec_DrawReversePath.mono _ _)
   | (with_reducible exact spec_DrawWeightOfPath.mono _ _)
   | (with_reducible exact spec_HeightsOf.mono _ _ _)
   | (with_reducible exact spec_PathsOf.mono _ _ _ _ _)
   | (with_reducible exact spec_ReversePath.mono _ _ _)
   | (with_reducible exact spec_WeightOfPath.mono _ _ _ _ _ _)
   | (with_reducible exact LeO.refl _)
   | (with_reducible exact LeO.none _)
   | (with_reducible refine LeO.ite ?_ ?_)
   | (with_reducible refine LeO.bind ?_ (fun _ => ?_))
   | exact ih0 _ _ _ _ _ _ _ _ _
   | exact ih1 _ _ _ _ _ _ _
   | exact ih2 _ _ _ _ _ _ _
   | exact ih3 _ _ _ _ _ _
   | exact ih4 _
   | exact ih5 _ _ _ _ _ _
   | exact ih6 _
   | exact impl_BallotNumber.mono _ _ _
   | exact impl_CountLevelPaths.mono _ _ _ _ _
   | exact impl_CountPaths.mono _ _ _ _ _
   | exact impl_HeightsOf.mono _ _ _
   | exact impl_PathsOf.mono _ _ _ _ _
   | exact impl_ReversePath.mono _ _ _
   | exact impl_WeightOfPath.mono _ _ _ _ _ _
   | exact laws_likeInts.mono _ _ _
   | exact spec_BallotNumber.mono _ _ _
   | exact spec_CountLevelPaths.mono _ _ _ _ _
   | exact spec_CountPaths.mono _ _ _ _ _
   | exact spec_DrawBallotNumber.mono _ _
   | exact spec_DrawCountLevelPaths.mono _ _
   | exact spec_DrawCountPaths.mono _ _
   | exact spec_DrawHeightsOf.mono _ _
   | exact spec_DrawPathsOf.mono _ _
   | exact spec_DrawReversePath.mono _ _
   | exact spec_DrawWeightOfPath.mono _ _
   | exact spec_HeightsOf.mono _ _ _
   | exact spec_PathsOf.mono _ _ _ _ _
   | exact spec_ReversePath.mono _ _ _
   | exact spec_WeightOfPath.mono _ _ _ _ _ _
   | exact LeO.none _
   | refine LeO.ite ?_ ?_
   | refine LeO.bind ?_ (fun _ => ?_)
  ·intro y0 y1 y2 y3 y4 y5 y6
   unfold laws_FnPathCounts.j1
   repeat' first
   | (with_reducible exact ih0 _ _ _ _ _ _ _ _ _)
   | (with_reducible exact ih1 _ _ _ _ _ _ _)
   | (with_reducible exact ih2 _ _ _ _ _ _ _)
   | (with_reducible exact ih3 _ _ _ _ _ _)
   | (with_reducible exact ih4 _)
   | (with_reducible exact ih5 _ _ _ _ _ _)
   | (with_reducible exact ih6 _)
   | (with_reducible exact impl_BallotNumber.mono _ _ _)
   | (with_reducible exact impl_CountLevelPaths.mono _ _ _ _ _)
   | (with_reducible exact impl_CountPaths.mono _ _ _ _ _)
   | (with_reducible exact impl_HeightsOf.mono _ _ _)
   | (with_reducible exact impl_PathsOf.mono _ _ _ _ _)
   | (with_reducible exact impl_ReversePath.mono _ _ _)
   | (with_reducible exact impl_WeightOfPath.mono _ _ _ _ _ _)
   | (with_reducible exact laws_likeInts.mono _ _ _)
   | (with_reducible exact spec_BallotNumber.mono _ _ _)
   | (with_reducible exact spec_CountLevelPaths.mono _ _ _ _ _)
   | (with_reducible exact spec_CountPaths.mono _ _ _ _ _)
   | (with_reducible exact spec_DrawBallotNumber.mono _ _)
   | (with_reducible exact spec_DrawCountLevelPaths.mono _ _)
   | (with_reducible exact spec_DrawCountPaths.mono _ _)
   | (with_reducible exact spec_DrawHeightsOf.mono _ _)
   | (with_reducible exact spec_DrawPathsOf.mono _ _)
   | (with_reducible exact spec_DrawReversePath.mono _ _)
   | (with_reducible exact spec_DrawWeightOfPath.mono _ _)
   | (with_reducible exact spec_HeightsOf.mono _ _ _)
   | (with_reducible exact spec_PathsOf.mono _ _ _ _ _)
   | (with_reducible exact spec_ReversePath.mono _ _ _)
   | (with_reducible exact spec_WeightOfPath.mono _ _ _ _ _ _)
   | (with_reducible exact LeO.refl _)
   | (with_reducible exact LeO.none _)
   | (with_reducible refine LeO.ite ?_ ?_)
   | (with_reducible refine LeO.bind ?_ (fun _ => ?_))
   | exact ih0 _ _ _ _ _ _ _ _ _
   | exact ih1 _ _ _ _ _ _ _
   | exact ih2 _ _ _ _ _ _ _
   | exact ih3 _ _ _ _ _ _
   | exact ih4 _
   | exact ih5 _ _ _ _ _ _
   | exact ih6 _
   | exact impl_BallotNumber.mono _ _ _
   | exact impl_CountLevelPaths.mono _ _ _ _ _
   | exact impl_CountPaths.mono _ _ _ _ _
   | exact impl_HeightsOf.mono _ _ _
   | exact impl_PathsOf.mono _ _ _ _ _
   | exact impl_ReversePath.mono _ _ _
   | exact impl_WeightOfPath.mono _ _ _ _ _ _
   | exact laws_likeInts.mono _ _ _
   | exact spec_BallotNumber.mono _ _ _
   | exact spec_CountLevelPaths.mono _ _ _ _ _
   | exact spec_CountPaths.mono _ _ _ _ _
   | exact spec_DrawBallotNumber.mono _ _
   | exact spec_DrawCountLevelPaths.mono _ _
   | exact spec_DrawCountPaths.mono _ _
   | exact spec_DrawHeightsOf.mono _ _
   | exact spec_DrawPathsOf.mono _ _
   | exact spec_DrawReversePath.mono _ _
   | exact spec_DrawWeightOfPath.mono _ _
   | exact spec_HeightsOf.mono _ _ _
   | exact spec_PathsOf.mono _ _ _ _ _
   | exact spec_ReversePath.mono _ _ _
   | exact spec_WeightOfPath.mono _ _ _ _ _ _
   | exact LeO.none _
   | refine LeO.ite ?_ ?_
   | refine LeO.bind ?_ (fun _ => ?_)
  ·intro y0 y1 y2 y3 y4 y5 y6
   unfold laws_FnPathCounts.l0
   repeat' first
   | (with_reducible exact ih0 _ _ _ _ _ _ _ _ _)
   | (with_reducible exact ih1 _ _ _ _ _ _ _)
   | (with_reducible exact ih2 _ _ _ _ _ _ _)
   | (with_reducible exact ih3 _ _ _ _ _ _)
   | (with_reducible exact ih4 _)
   | (with_reducible exact ih5 _ _ _ _ _ _)
   | (with_reducible exact ih6 _)
   | (with_reducible exact impl_BallotNumber.mono _ _ _)
   | (with_reducible exact impl_CountLevelPaths.mono _ _ _ _ _)
   | (with_reducible exact impl_CountPaths.mono _ _ _ _ _)
   | (with_reducible exact impl_HeightsOf.mono _ _ _)
   | (with_reducible exact impl_PathsOf.mono _ _ _ _ _)
   | (with_reducible exact impl_ReversePath.mono _ _ _)
   | (with_reducible exact impl_WeightOfPath.mono _ _ _ _ _ _)
   | (with_reducible exact laws_likeInts.mono _ _ _)
   | (with_reducible exact spec_BallotNumber.mono _ _ _)
   | (with_reducible exact spec_CountLevelPaths.mono _ _ _ _ _)
   | (with_reducible exact spec_CountPaths.mono _ _ _ _ _)
   | (with_reducible exact spec_DrawBallotNumber.mono _ _)
   | (with_reducible exact spec_DrawCountLevelPaths.mono _ _)
   | (with_reducible exact spec_DrawCountPaths.mono _ _)
   | (with_reducible exact spec_DrawHeightsOf.mono _ _)
   | (with_reducible exact spec_DrawPathsOf.mono _ _)
   | (with_reducible exact spec_DrawReversePath.mono _ _)
   | (with_reducible exact spec_DrawWeightOfPath.mono _ _)
   | (with_reducible exact spec_HeightsOf.mono _ _ _)
   | (with_reducible exact spec_PathsOf.mono _ _ _ _ _)
   | (with_reducible exact spec_ReversePath.mono _ _ _)
   | (with_reducible exact spec_WeightOfPath.mono _ _ _ _ _ _)
   | (with_reducible exact LeO.refl _)
   | (with_reducible exact LeO.none _)
   | (with_reducible refine LeO.ite ?_ ?_)
   | (with_reducible refine LeO.bind ?_ (fun _ => ?_))
   | exact ih0 _ _ _ _ _ _ _ _ _
   | exact ih1 _ _ _ _ _ _ _
   | exact ih2 _ _ _ _ _ _ _
   | exact ih3 _ _ _ _ _ _
   | exact ih4 _
   | exact ih5 _ _ _ _ _ _
   | exact ih6 _
   | exact impl_BallotNumber.mono _ _ _
   | exact impl_CountLevelPaths.mono _ _ _ _ _
   | exact impl_CountPaths.mono _ _ _ _ _
   | exact impl_HeightsOf.mono _ _ _
   | exact impl_PathsOf.mono _ _ _ _ _
   | exact impl_ReversePath.mono _ _ _
   | exact impl_WeightOfPath.mono _ _ _ _ _ _
   | exact laws_likeInts.mono _ _ _
   | exact spec_BallotNumber.mono _ _ _
   | exact spec_CountLevelPaths.mono _ _ _ _ _
   | exact spec_CountPaths.mono _ _ _ _ _
   | exact spec_DrawBallotNumber.mono _ _
   | exact spec_DrawCountLevelPaths.mono _ _
   | exact spec_DrawCountPaths.mono _ _
   | exact spec_DrawHeightsOf.mono _ _
   | exact spec_DrawPathsOf.mono _ _
   | exact spec_DrawReversePath.mono _ _
   | exact spec_DrawWeightOfPath.mono _ _
   | exact spec_HeightsOf.mono _ _ _
   | exact spec_PathsOf.mono _ _ _ _ _
   | exact spec_ReversePath.mono _ _ _
   | exact spec_WeightOfPath.mono _ _ _ _ _ _
   | exact LeO.none _
   | refine LeO.ite ?_ ?_
   | refine LeO.bind ?_ (fun _ => ?_)
  ·intro y0 y1 y2 y3 y4 y5
   unfold laws_FnPathCounts.j3
   repeat' first
   | (with_reducible exact ih0 _ _ _ _ _ _ _ _ _)
   | (with_reducible exact ih1 _ _ _ _ _ _ _)
   | (with_reducible exact ih2 _ _ _ _ _ _ _)
   | (with_reducible exact ih3 _ _ _ _ _ _)
   | (with_reducible exact ih4 _)
   | (with_reducible exact ih5 _ _ _ _ _ _)
   | (with_reducible exact ih6 _)
   | (with_reducible exact impl_BallotNumber.mono _ _ _)
   | (with_reducible exact impl_CountLevelPaths.mono _ _ _ _ _)
   | (with_reducible exact impl_CountPaths.mono _ _ _ _ _)
   | (with_reducible exact impl_HeightsOf.mono _ _ _)
   | (with_reducible exact impl_PathsOf.mono _ _ _ _ _)
   | (with_reducible exact impl_ReversePath.mono _ _ _)
   | (with_reducible exact impl_WeightOfPath.mono _ _ _ _ _ _)
   | (with_reducible exact laws_likeInts.mono _ _ _)
   | (with_reducible exact spec_BallotNumber.mono _ _ _)
   | (with_reducible exact spec_CountLevelPaths.mono _ _ _ _ _)
   | (with_reducible exact spec_CountPaths.mono _ _ _ _ _)
   | (with_reducible exact spec_DrawBallotNumber.mono _ _)
   | (with_reducible exact spec_DrawCountLevelPaths.mono _ _)
   | (with_reducible exact spec_DrawCountPaths.mono _ _)
   | (with_reducible exact spec_DrawHeightsOf.mono _ _)
   | (with_reducible exact spec_DrawPathsOf.mono _ _)
   | (with_reducible exact spec_DrawReversePath.mono _ _)
   | (with_reducible exact spec_DrawWeightOfPath.mono _ _)
   | (with_reducible exact spec_HeightsOf.mono _ _ _)
   | (with_reducible exact spec_PathsOf.mono _ _ _ _ _)
   | (with_reducible exact spec_ReversePath.mono _ _ _)
   | (with_reducible exact spec_WeightOfPath.mono _ _ _ _ _ _)
   | (with_reducible exact LeO.refl _)
   | (with_reducible exact LeO.none _)
   | (with_reducible refine LeO.ite ?_ ?_)
   | (with_reducible refine LeO.bind ?_ (fun _ => ?_))
   | exact ih0 _ _ _ _ _ _ _ _ _
   | exact ih1 _ _ _ _ _ _ _
   | exact ih2 _ _ _ _ _ _ _
   | exact ih3 _ _ _ _ _ _
   | exact ih4 _
   | exact ih5 _ _ _ _ _ _
   | exact ih6 _
   | exact impl_BallotNumber.mono _ _ _
   | exact impl_CountLevelPaths.mono _ _ _ _ _
   | exact impl_CountPaths.mono _ _ _ _ _
   | exact impl_HeightsOf.mono _ _ _
   | exact impl_PathsOf.mono _ _ _ _ _
   | exact impl_ReversePath.mono _ _ _
   | exact impl_WeightOfPath.mono _ _ _ _ _ _
   | exact laws_likeInts.mono _ _ _
   | exact spec_BallotNumber.mono _ _ _
   | exact spec_CountLevelPaths.mono _ _ _ _ _
   | exact spec_CountPaths.mono _ _ _ _ _
   | exact spec_DrawBallotNumber.mono _ _
   | exact spec_DrawCountLevelPaths.mono _ _
   | exact spec_DrawCountPaths.mono _ _
   | exact spec_DrawHeightsOf.mono _ _
   | exact spec_DrawPathsOf.mono _ _
   | exact spec_DrawReversePath.mono _ _
   | exact spec_DrawWeightOfPath.mono _ _
   | exact spec_HeightsOf.mono _ _ _
   | exact spec_PathsOf.mono _ _ _ _ _
   | exact spec_ReversePath.mono _ _ _
   | exact spec_WeightOfPath.mono _ _ _ _ _ _
   | exact LeO.none _
   | refine LeO.ite ?_ ?_
   | refine LeO.bind ?_ (fun _ => ?_)
  ·intro y0
   unfold laws_FnPathCounts.j4
   repeat' first
   | (with_reducible exact ih0 _ _ _ _ _ _ _ _ _)
   | (with_reducible exact ih1 _ _ _ _ _ _ _)
   | (with_reducible exact ih2 _ _ _ _ _ _ _)
   | (with_reducible exact ih3 _ _ _ _ _ _)
   | (with_reducible exact ih4 _)
   | (with_reducible exact ih5 _ _ _ _ _ _)
   | (with_reducible exact ih6 _)
   | (with_reducible exact impl_BallotNumber.mono _ _ _)
   | (with_reducible exact impl_CountLevelPaths.mono _ _ _ _ _)
   | (with_reducible exact impl_CountPaths.mono _ _ _ _ _)
   | (with_reducible exact impl_HeightsOf.mono _ _ _)
   | (with_reducible exact impl_PathsOf.mono _ _ _ _ _)
   | (with_reducible exact impl_ReversePath.mono _ _ _)
   | (with_reducible exact impl_WeightOfPath.mono _ _ _ _ _ _)
   | (with_reducible exact laws_likeInts.mono _ _ _)
   | (with_reducible exact spec_BallotNumber.mono _ _ _)
   | (with_reducible exact spec_CountLevelPaths.mono _ _ _ _ _)
   | (with_reducible exact spec_CountPaths.mono _ _ _ _ _)
   | (with_reducible exact spec_DrawBallotNumber.mono _ _)
   | (with_reducible exact spec_DrawCountLevelPaths.mono _ _)
   | (with_reducible exact spec_DrawCountPaths.mono _ _)
   | (with_reducible exact spec_DrawHeightsOf.mono _ _)
   | (with_reducible exact spec_DrawPathsOf.mono _ _)
   | (with_reducible exact spec_DrawReversePath.mono _ _)
   | (with_reducible exact spec_DrawWeightOfPath.mono _ _)
   | (with_reducible exact spec_HeightsOf.mono _ _ _)
   | (with_reducible exact spec_PathsOf.mono _ _ _ _ _)
   | (with_reducible exact spec_ReversePath.mono _ _ _)
   | (with_reducible exact spec_WeightOfPath.mono _ _ _ _ _ _)
   | (with_reducible exact LeO.refl _)
   | (with_reducible exact LeO.none _)
   | (with_reducible refine LeO.ite ?_ ?_)
   | (with_reducible refine LeO.bind ?_ (fun _ => ?_))
   | exact ih0 _ _ _ _ _ _ _ _ _
   | exact ih1 _ _ _ _ _ _ _
   | exact ih2 _ _ _ _ _ _ _
   | exact ih3 _ _ _ _ _ _
   | exact ih4 _
   | exact ih5 _ _ _ _ _ _
   | exact ih6 _
   | exact impl_BallotNumber.mono _ _ _
   | exact impl_CountLevelPaths.mono _ _ _ _ _
   | exact impl_CountPaths.mono _ _ _ _ _
   | exact impl_HeightsOf.mono _ _ _
   | exact impl_PathsOf.mono _ _ _ _ _
   | exact impl_ReversePath.mono _ _ _
   | exact impl_WeightOfPath.mono _ _ _ _ _ _
   | exact laws_likeInts.mono _ _ _
   | exact spec_BallotNumber.mono _ _ _
   | exact spec_CountLevelPaths.mono _ _ _ _ _
   | exact spec_CountPaths.mono _ _ _ _ _
   | exact spec_DrawBallotNumber.mono _ _
   | exact spec_DrawCountLevelPaths.mono _ _
   | exact spec_DrawCountPaths.mono _ _
   | exact spec_DrawHeightsOf.mono _ _
   | exact spec_DrawPathsOf.mono _ _
   | exact spec_DrawReversePath.mono _ _
   | exact spec_DrawWeightOfPath.mono _ _
   | exact spec_HeightsOf.mono _ _ _
   | exact spec_PathsOf.mono _ _ _ _ _
   | exact spec_ReversePath.mono _ _ _
   | exact spec_WeightOfPath.mono _ _ _ _ _ _
   | exact LeO.none _
   | refine LeO.ite ?_ ?_
   | refine LeO.bind ?_ (fun _ => ?_)
  ·intro y0 y1 y2 y3 y4 y5
   unfold laws_FnPathCounts.j5
   repeat' first
   | (with_reducible exact ih0 _ _ _ _ _ _ _ _ _)
   | (with_reducible exact ih1 _ _ _ _ _ _ _)
   | (with_reducible exact ih2 _ _ _ _ _ _ _)
   | (with_reducible exact ih3 _ _ _ _ _ _)
   | (with_reducible exact ih4 _)
   | (with_reducible exact ih5 _ _ _ _ _ _)
   | (with_reducible exact ih6 _)
   | (with_reducible exact impl_BallotNumber.mono _ _ _)
   | (with_reducible exact impl_CountLevelPaths.mono _ _ _ _ _)
   | (with_reducible exact impl_CountPaths.mono _ _ _ _ _)
   | (with_reducible exact impl_HeightsOf.mono _ _ _)
   | (with_reducible exact impl_PathsOf.mono _ _ _ _ _)
   | (with_reducible exact impl_ReversePath.mono _ _ _)
   | (with_reducible exact impl_WeightOfPath.mono _ _ _ _ _ _)
   | (with_reducible exact laws_likeInts.mono _ _ _)
   | (with_reducible exact spec_BallotNumber.mono _ _ _)
   | (with_reducible exact spec_CountLevelPaths.mono _ _ _ _ _)
   | (with_reducible exact spec_CountPaths.mono _ _ _ _ _)
   | (with_reducible exact spec_DrawBallotNumber.mono _ _)
   | (with_reducible exact spec_DrawCountLevelPaths.mono _ _)
   | (with_reducible exact spec_DrawCountPaths.mono _ _)
   | (with_reducible exact spec_DrawHeightsOf.mono _ _)
   | (with_reducible exact spec_DrawPathsOf.mono _ _)
   | (with_reducible exact spec_DrawReversePath.mono _ _)
   | (with_reducible exact spec_DrawWeightOfPath.mono _ _)
   | (with_reducible exact spec_HeightsOf.mono _ _ _)
   | (with_reducible exact spec_PathsOf.mono _ _ _ _ _)
   | (with_reducible exact spec_ReversePath.mono _ _ _)
   | (with_reducible exact spec_WeightOfPath.mono _ _ _ _ _ _)
   | (with_reducible exact LeO.refl _)
   | (with_reducible exact LeO.none _)
   | (with_reducible refine LeO.ite ?_ ?_)
   | (with_reducible refine LeO.bind ?_ (fun _ => ?_))
   | exact ih0 _ _ _ _ _ _ _ _ _
   | exact ih1 _ _ _ _ _ _ _
   | exact ih2 _ _ _ _ _ _ _
   | exact ih3 _ _ _ _ _ _
   | exact ih4 _
   | exact ih5 _ _ _ _ _ _
   | exact ih6 _
   | exact impl_BallotNumber.mono _ _ _
   | exact impl_CountLevelPaths.mono _ _ _ _ _
   | exact impl_CountPaths.mono _ _ _ _ _
   | exact impl_HeightsOf.mono _ _ _
   | exact impl_PathsOf.mono _ _ _ _ _
   | exact impl_ReversePath.mono _ _ _
   | exact impl_WeightOfPath.mono _ _ _ _ _ _
   | exact laws_likeInts.mono _ _ _
   | exact spec_BallotNumber.mono _ _ _
   | exact spec_CountLevelPaths.mono _ _ _ _ _
   | exact spec_CountPaths.mono _ _ _ _ _
   | exact spec_DrawBallotNumber.mono _ _
   | exact spec_DrawCountLevelPaths.mono _ _
   | exact spec_DrawCountPaths.mono _ _
   | exact spec_DrawHeightsOf.mono _ _
   | exact spec_DrawPathsOf.mono _ _
   | exact spec_DrawReversePath.mono _ _
   | exact spec_DrawWeightOfPath.mono _ _
   | exact spec_HeightsOf.mono _ _ _
   | exact spec_PathsOf.mono _ _ _ _ _
   | exact spec_ReversePath.mono _ _ _
   | exact spec_WeightOfPath.mono _ _ _ _ _ _
   | exact LeO.none _
   | refine LeO.ite ?_ ?_
   | refine LeO.bind ?_ (fun _ => ?_)
  ·intro y0
   unfold laws_FnPathCounts.j6
   repeat' first
   | (with_reducible exact ih0 _ _ _ _ _ _ _ _ _)
   | (with_reducible exact ih1 _ _ _ _ _ _ _)
   | (with_reducible exact ih2 _ _ _ _ _ _ _)
   | (with_reducible exact ih3 _ _ _ _ _ _)
   | (with_reducible exact ih4 _)
   | (with_reducible exact ih5 _ _ _ _ _ _)
   | (with_reducible exact ih6 _)
   | (with_reducible exact impl_BallotNumber.mono _ _ _)
   | (with_reducible exact impl_CountLevelPaths.mono _ _ _ _ _)
   | (with_reducible exact impl_CountPaths.mono _ _ _ _ _)
   | (with_reducible exact impl_HeightsOf.mono _ _ _)
   | (with_reducible exact impl_PathsOf.mono _ _ _ _ _)
   | (with_reducible exact impl_ReversePath.mono _ _ _)
   | (with_reducible exact impl_WeightOfPath.mono _ _ _ _ _ _)
   | (with_reducible exact laws_likeInts.mono _ _ _)
   | (with_reducible exact spec_BallotNumber.mono _ _ _)
   | (with_reducible exact spec_CountLevelPaths.mono _ _ _ _ _)
   | (with_reducible exact spec_CountPaths.mono _ _ _ _ _)
   | (with_reducible exact spec_DrawBallotNumber.mono _ _)
   | (with_reducible exact spec_DrawCountLevelPaths.mono _ _)
   | (with_reducible exact spec_DrawCountPaths.mono _ _)
   | (with_reducible exact spec_DrawHeightsOf.mono _ _)
   | (with_reducible exact spec_DrawPathsOf.mono _ _)
   | (with_reducible exact spec_DrawReversePath.mono _ _)
   | (with_reducible exact spec_DrawWeightOfPath.mono _ _)
   | (with_reducible exact spec_HeightsOf.mono _ _ _)
   | (with_reducible exact spec_PathsOf.mono _ _ _ _ _)
   | (with_reducible exact spec_ReversePath.mono _ _ _)
   | (with_reducible exact spec_WeightOfPath.mono _ _ _ _ _ _)
   | (with_reducible exact LeO.refl _)
   | (with_reducible exact LeO.none _)
   | (with_reducible refine LeO.ite ?_ ?_)
   | (with_reducible refine LeO.bind ?_ (fun _ => ?_))
   | exact ih0 _ _ _ _ _ _ _ _ _
   | exact ih1 _ _ _ _ _ _ _
   | exact ih2 _ _ _ _ _ _ _
   | exact ih3 _ _ _ _ _ _
   | exact ih4 _
   | exact ih5 _ _ _ _ _ _
   | exact ih6 _
   | exact impl_BallotNumber.mono _ _ _
   | exact impl_CountLevelPaths.mono _ _ _ _ _
   | exact impl_CountPaths.mono _ _ _ _ _
   | exact impl_HeightsOf.mono _ _ _
   | exact impl_PathsOf.mono _ _ _ _ _
   | exact impl_ReversePath.mono _ _ _
   | exact impl_WeightOfPath.mono _ _ _ _ _ _
   | exact laws_likeInts.mono _ _ _
   | exact spec_BallotNumber.mono _ _ _
   | exact spec_CountLevelPaths.mono _ _ _ _ _
   | exact spec_CountPaths.mono _ _ _ _ _
   | exact spec_DrawBallotNumber.mono _ _
   | exact spec_DrawCountLevelPaths.mono _ _
   | exact spec_DrawCountPaths.mono _ _
   | exact spec_DrawHeightsOf.mono _ _
   | exact spec_DrawPathsOf.mono _ _
   | exact spec_DrawReversePath.mono _ _
   | exact spec_DrawWeightOfPath.mono _ _
   | exact spec_HeightsOf.mono _ _ _
   | exact spec_PathsOf.mono _ _ _ _ _
   | exact spec_ReversePath.mono _ _ _
   | exact spec_WeightOfPath.mono _ _ _ _ _ _
   | exact LeO.none _
   | refine LeO.ite ?_ ?_
   | refine LeO.bind ?_ (fun _ => ?_)
theorem laws_FnPathCounts.mono : ∀ a0 k, LeO (laws_FnPathCounts.f k a0) (laws_FnPathCounts.f (k + 1) a0) := by
 intro a0 k
 obtain ⟨ih0, ih1, ih2, ih3, ih4, ih5, ih6⟩ := laws_FnPathCounts.mono_l k
 unfold laws_FnPathCounts.f
 repeat' first
   | (with_reducible exact ih0 _ _ _ _ _ _ _ _ _)
   | (with_reducible exact ih1 _ _ _ _ _ _ _)
   | (with_reducible exact ih2 _ _ _ _ _ _ _)
   | (with_reducible exact ih3 _ _ _ _ _ _)
   | (with_reducible exact ih4 _)
   | (with_reducible exact ih5 _ _ _ _ _ _)
   | (with_reducible exact ih6 _)
   | (with_reducible exact impl_BallotNumber.mono _ _ _)
   | (with_reducible exact impl_CountLevelPaths.mono _ _ _ _ _)
   | (with_reducible exact impl_CountPaths.mono _ _ _ _ _)
   | (with_reducible exact impl_HeightsOf.mono _ _ _)
   | (with_reducible exact impl_PathsOf.mono _ _ _ _ _)
   | (with_reducible exact impl_ReversePath.mono _ _ _)
   | (with_reducible exact impl_WeightOfPath.mono _ _ _ _ _ _)
   | (with_reducible exact laws_likeInts.mono _ _ _)
   | (with_reducible exact spec_BallotNumber.mono _ _ _)
   | (with_reducible exact spec_CountLevelPaths.mono _ _ _ _ _)
   | (with_reducible exact spec_CountPaths.mono _ _ _ _ _)
   | (with_reducible exact spec_DrawBallotNumber.mono _ _)
   | (with_reducible exact spec_DrawCountLevelPaths.mono _ _)
   | (with_reducible exact spec_DrawCountPaths.mono _ _)
   | (with_reducible exact spec_DrawHeightsOf.mono _ _)
   | (with_reducible exact spec_DrawPathsOf.mono _ _)
   | (with_reducible exact spec_DrawReversePath.mono _ _)
   | (with_reducible exact spec_DrawWeightOfPath.mono _ _)
   | (with_reducible exact spec_HeightsOf.mono _ _ _)
   | (with_reducible exact spec_PathsOf.mono _ _ _ _ _)
   | (with_reducible exact spec_ReversePath.mono _ _ _)
   | (with_reducible exact spec_WeightOfPath.mono _ _ _ _ _ _)
   | (with_reducible exact LeO.refl _)
   | (with_reducible exact LeO.none _)
   | (with_reducible refine LeO.ite ?_ ?_)
   | (with_reducible refine LeO.bind ?_ (fun _ => ?_))
   | exact ih0 _ _ _ _ _ _ _ _ _
   | exact ih1 _ _ _ _ _ _ _
   | exact ih2 _ _ _ _ _ _ _
   | exact ih3 _ _ _ _ _ _
   | exact ih4 _
   | exact ih5 _ _ _ _ _ _
   | exact ih6 _
   | exact impl_BallotNumber.mono _ _ _
   | exact impl_CountLevelPaths.mono _ _ _ _ _
   | exact impl_CountPaths.mono _ _ _ _ _
   | exact impl_HeightsOf.mono _ _ _
   | exact impl_PathsOf.mono _ _ _ _ _
   | exact impl_ReversePath.mono _ _ _
   | exact impl_WeightOfPath.mono _ _ _ _ _ _
   | exact laws_likeInts.mono _ _ _
   | exact spec_BallotNumber.mono _ _ _
   | exact spec_CountLevelPaths.mono _ _ _ _ _
   | exact spec_CountPaths.mono _ _ _ _ _
   | exact spec_DrawBallotNumber.mono _ _
   | exact spec_DrawCountLevelPaths.mono _ _
   | exact spec_DrawCountPaths.mono _ _
   | exact spec_DrawHeightsOf.mono _ _
   | exact spec_DrawPathsOf.mono _ _
   | exact spec_DrawReversePath.mono _ _
   | exact spec_DrawWeightOfPath.mono _ _
   | exact spec_HeightsOf.mono _ _ _
   | exact spec_PathsOf.mono _ _ _ _ _
   | exact spec_ReversePath.mono _ _ _
   | exact spec_WeightOfPath.mono _ _ _ _ _ _
   | exact LeO.none _
   | refine LeO.ite ?_ ?_
   | refine LeO.bind ?_ (fun _ => ?_)
set_option maxHeartbeats 8000000 in
set_option maxRecDepth 100000 in
theorem laws_FnPathCounts.calls (k : Nat) (A0 : Option Addr) (c0 : Nat) (l0 : List Int) (r : Bool) (w : World) (hr0 : Kd.C (Kd.int .u8) w A0 l0.length l0) (hc0 : l0.length ≤ c0) (hT : Aside0 (r = true)) (h : laws_FnPathCounts.f k l0 = some r) :
  Calls Try.prog 4 #[.slice A0 l0.length c0] w fun e w' => e = .returned (.bool r) ∧ Below w.heap.size w w' := by
 have hu26 := Try.underlying26
 have HR0 := Aside0.mk hr0
 have HC0 := Aside0.mk hc0
 clear hr0 hc0
 have HB := Aside0.mk (Below.refl w.heap.size w)
 have H : ((laws_big.f l0).bind fun t1223 => (if t1223 = true then (some true) else ((spec_DrawPathsOf.f k l0).bind fun bt1224 => ((impl_PathsOf.f k bt1224.1 bt1224.2.1 bt1224.2.2.1 bt1224.2.2.2).bind fun bt1228 => ((spec_PathsOf.f k bt1224.1 bt1224.2.1 bt1224.2.2.1 bt1224.2.2.2).bind fun bt1232 => (if bt1228.2 = bt1232.2 then (laws_FnPathCounts.j0 k l0 bt1224.1 bt1224.2.1 bt1224.2.2.1 bt1224.2.2.2 bt1228.1 bt1228.2 bt1232.1 ((bt1228.1.length : Int) != (bt1232.1.length : Int))) else (laws_FnPathCounts.j0 k l0 bt1224.1 bt1224.2.1 bt1224.2.2.1 bt1224.2.2.2 bt1228.1 bt1228.2 bt1232.1 true))))))) = some r := h
 clear h
 replace H := Option.bind_eq_some_iff.mp H
 obtain ⟨t1223, A20, H⟩ := H
 try dsimp only at H
 have A2 := Aside0.mk A20
 clear A20
 by_cases c3 : t1223 = true
 ·subst c3
  rw [if_pos rfl] at H
  obtain rfl := Option.some.inj H
  go_enter Try.func4, Try.ntmps4
  go_wp2_with (first | (go_at_call 9; (with_reducible refine (laws_big.calls _ _ l0 true _ ?side1 ?side2 A2.out).mono ?_); (case side1 => exact ZqC (HR0.out)); (case side2 => exact HC0.out); rintro e w' ⟨rfl, ⟨nd, rfl⟩⟩; (try first | exact ⟨rfl, _, World.drewN_drewN _ _ _⟩ | exact ⟨rfl, _, Eq.trans (World.drewN_drewN _ _ _) (congrArg (World.drewN _) (Nat.add_assoc _ _ _))⟩)))
  repeat (go_quiet (first | (go_at_call 9; (with_reducible refine (laws_big.calls _ _ l0 true _ ?side1 ?side2 A2.out).mono ?_); (case side1 => exact ZqC (HR0.out)); (case side2 => exact HC0.out); rintro e w' ⟨rfl, ⟨nd, rfl⟩⟩; (try first | exact ⟨rfl, _, World.drewN_drewN _ _ _⟩ | exact ⟨rfl, _, Eq.trans (World.drewN_drewN _ _ _) (congrArg (World.drewN _) (Nat.add_assoc _ _ _))⟩))); try go_wp2_with (first | (go_at_call 9; (with_reducible refine (laws_big.calls _ _ l0 true _ ?side1 ?side2 A2.out).mono ?_); (case side1 => exact ZqC (HR0.out)); (case side2 => exact HC0.out); rintro e w' ⟨rfl, ⟨nd, rfl⟩⟩; (try first | exact ⟨rfl, _, World.drewN_drewN _ _ _⟩ | exact ⟨rfl, _, Eq.trans (World.drewN_drewN _ _ _) (congrArg (World.drewN _) (Nat.add_assoc _ _ _))⟩))))
  go_ret
  exact ⟨ZqR, ZB⟩
 ·replace c3 := Bool.eq_false_iff.mpr c3
  subst c3
  rw [if_neg (show ¬ (false = true) by decide)] at H
  replace H := Option.bind_eq_some_iff.mp H
  obtain ⟨⟨t1224, t1225, t1226, t1227⟩, A40, H⟩ := H
  try dsimp only at H
  have A4 := Aside0.mk A40
  clear A40
  replace H := Option.bind_eq_some_iff.mp H
  obtain ⟨⟨t1228, t1229⟩, A50, H⟩ := H
  try dsimp only at H
  have A5 := Aside0.mk A50
  clear A50
  replace H := Option.bind_eq_some_iff.mp H
  obtain ⟨⟨t1232, t1233⟩, A60, H⟩ := H
  try dsimp only at H
  have A6 := Aside0.mk A60
  clear A60
  have HC7 := Aside0.mk H
  clear H
  go_enter Try.func4, Try.ntmps4
  go_upto_region 6 with (first | (go_at_call 9; (with_reducible refine (laws_big.calls _ _ l0 false _ ?side1 ?side2 A2.out).mono ?_); (case side1 => exact ZqC (HR0.out)); (case side2 => exact HC0.out); rintro e w' ⟨rfl, ⟨nd, rfl⟩⟩; (try first | exact ⟨rfl, _, World.drewN_drewN _ _ _⟩ | exact ⟨rfl, _, Eq.trans (World.drewN_drewN _ _ _) (congrArg (World.drewN _) (Nat.add_assoc _ _ _))⟩)) | (go_at_call 25; (with_reducible refine (spec_DrawPathsOf.calls k _ _ l0 t1224 t1225 t1226 t1227 _ ?side1 ?side2 A4.out).mono ?_); (case side1 => exact ZqC (HR0.out)); (case side2 => exact HC0.out); rintro e w8 ⟨rfl, hb⟩; have n0_ := Aside0.mk (below_step ZB hb); clear HB; have HB := n0_; clear n0_; (try clear hb)) | (go_at_call 26; (with_reducible refine (impl_PathsOf.calls k t1224 t1225 t1226 t1227 t1228 t1229 _ A5.out).mono ?_); rintro e w9 ⟨v1230, rfl, ho0, hb⟩; have n0_ := Aside0.mk (Kd.R_lower ho0 (below_size ZB)); have n1_ := Aside0.mk (below_step ZB hb); clear HB; have HO1231 := n0_; have HB := n1_; clear n0_ n1_; (try clear hb); (try clear ho0)) | (go_at_call 27; (with_reducible refine (spec_PathsOf.calls k t1224 t1225 t1226 t1227 t1232 t1233 _ A6.out).mono ?_); rintro e w10 ⟨v1234, rfl, ho0, hb⟩; have n0_ := Aside0.mk (Kd.R_elder' (ZR HO1231) (Kd.R_base ho0) hb); have n1_ := Aside0.mk (Kd.R_lower (Kd.R_new' ho0 (Kd.R_lt (ZR HO1231))) (below_size ZB)); have n2_ := Aside0.mk (below_step ZB hb); clear HO1231 HB; have HO1231 := n0_; have HO1235 := n1_; have HB := n2_; clear n0_ n1_ n2_; (try clear hb); (try clear ho0)))
  repeat (go_quiet (first | (go_at_call 9; (with_reducible refine (laws_big.calls _ _ l0 false _ ?side1 ?side2 A2.out).mono ?_); (case side1 => exact ZqC (HR0.out)); (case side2 => exact HC0.out); rintro e w' ⟨rfl, ⟨nd, rfl⟩⟩; (try first | exact ⟨rfl, _, World.drewN_drewN _ _ _⟩ | exact ⟨rfl, _, Eq.trans (World.drewN_drewN _ _ _) (congrArg (World.drewN _) (Nat.add_assoc _ _ _))⟩)) | (go_at_call 25; (with_reducible refine (spec_DrawPathsOf.calls k _ _ l0 t1224 t1225 t1226 t1227 _ ?side1 ?side2 A4.out).mono ?_); (case side1 => exact ZqC (HR0.out)); (case side2 => exact HC0.out); rintro e w8 ⟨rfl, hb⟩; have n0_ := Aside0.mk (below_step ZB hb); clear HB; have HB := n0_; clear n0_; (try clear hb)) | (go_at_call 26; (with_reducible refine (impl_PathsOf.calls k t1224 t1225 t1226 t1227 t1228 t1229 _ A5.out).mono ?_); rintro e w9 ⟨v1230, rfl, ho0, hb⟩; have n0_ := Aside0.mk (Kd.R_lower ho0 (below_size ZB)); have n1_ := Aside0.mk (below_step ZB hb); clear HB; have HO1231 := n0_; have HB := n1_; clear n0_ n1_; (try clear hb); (try clear ho0)) | (go_at_call 27; (with_reducible refine (spec_PathsOf.calls k t1224 t1225 t1226 t1227 t1232 t1233 _ A6.out).mono ?_); rintro e w10 ⟨v1234, rfl, ho0, hb⟩; have n0_ := Aside0.mk (Kd.R_elder' (ZR HO1231) (Kd.R_base ho0) hb); have n1_ := Aside0.mk (Kd.R_lower (Kd.R_new' ho0 (Kd.R_lt (ZR HO1231))) (below_size ZB)); have n2_ := Aside0.mk (below_step ZB hb); clear HO1231 HB; have HO1231 := n0_; have HO1235 := n1_; have HB := n2_; clear n0_ n1_ n2_; (try clear hb); (try clear ho0))); go_upto_region 6 with (first | (go_at_call 9; (with_reducible refine (laws_big.calls _ _ l0 false _ ?side1 ?side2 A2.out).mono ?_); (case side1 => exact ZqC (HR0.out)); (case side2 => exact HC0.out); rintro e w' ⟨rfl, ⟨nd, rfl⟩⟩; (try first | exact ⟨rfl, _, World.drewN_drewN _ _ _⟩ | exact ⟨rfl, _, Eq.trans (World.drewN_drewN _ _ _) (congrArg (World.drewN _) (Nat.add_assoc _ _ _))⟩)) | (go_at_call 25; (with_reducible refine (spec_DrawPathsOf.calls k _ _ l0 t1224 t1225 t1226 t1227 _ ?side1 ?side2 A4.out).mono ?_); (case side1 => exact ZqC (HR0.out)); (case side2 => exact HC0.out); rintro e w8 ⟨rfl, hb⟩; have n0_ := Aside0.mk (below_step ZB hb); clear HB; have HB := n0_; clear n0_; (try clear hb)) | (go_at_call 26; (with_reducible refine (impl_PathsOf.calls k t1224 t1225 t1226 t1227 t1228 t1229 _ A5.out).mono ?_); rintro e w9 ⟨v1230, rfl, ho0, hb⟩; have n0_ := Aside0.mk (Kd.R_lower ho0 (below_size ZB)); have n1_ := Aside0.mk (below_step ZB hb); clear HB; have HO1231 := n0_; have HB := n1_; clear n0_ n1_; (try clear hb); (try clear ho0)) | (go_at_call 27; (with_reducible refine (spec_PathsOf.calls k t1224 t1225 t1226 t1227 t1232 t1233 _ A6.out).mono ?_); rintro e w10 ⟨v1234, rfl, ho0, hb⟩; have n0_ := Aside0.mk (Kd.R_elder' (ZR HO1231) (Kd.R_base ho0) hb); have n1_ := Aside0.mk (Kd.R_lower (Kd.R_new' ho0 (Kd.R_lt (ZR HO1231))) (below_size ZB)); have n2_ := Aside0.mk (below_step ZB hb); clear HO1231 HB; have HO1231 := n0_; have HO1235 := n1_; have HB := n2_; clear n0_ n1_ n2_; (try clear hb); (try clear ho0))))
  (try simp only [Act.put, List.setIfInBounds_toArray, List.set_cons_zero, List.set_cons_succ])
  go_cut [100] from 100000 to 0 (fun v100 wc => ∃ (kq : Nat) (x100_6 : Bool), v100 = .bool x100_6 ∧ Aside0 (laws_FnPathCounts.j0 kq l0 t1224 t1225 t1226 t1227 t1228 t1229 t1232 x100_6 = some r) ∧ Aside0 (kq ≤ k) ∧ Aside0 (Kd.R Kd.string 9 wc w.heap.size (fun k_ => some k_ ≠ (v1234 : Value).ownBlock) v1230 t1228) ∧ Aside0 (Kd.R Kd.string 9 wc w.heap.size (fun k_ => some k_ ≠ (v1230 : Value).ownBlock) v1234 t1232) ∧ Aside0 (Below w.heap.size w wc))
  case first =>
   have H := HC7.out
   clear HC7
   by_cases c11 : t1229 = t1233
   ·rw [if_pos c11] at H
    have c11b0 : (t1229 == t1233) = true := beq_iff_eq.mpr c11
    have c11b1 : (t1229 != t1233) = false := bne_eq_false_iff_eq.mpr c11
    clear c11
    (first | rw [c11b0] | (simp only [i64_w, i32_w]; rw [c11b0]) | skip)
    have H' := Aside0.mk H
    clear H
    obtain ⟨Ao12, co12, eo12⟩ := Kd.R_slice HO1231.out
    subst eo12
    obtain ⟨Ao13, co13, eo13⟩ := Kd.R_slice HO1235.out
    subst eo13
    go_wp2
    repeat (go_quiet (fail); try go_wp2)
    go_meet
    case rel => exact ⟨_, (((t1228.length : Int) != (t1232.length : Int))), (ZqS), H', ⟨by first | omega | exact Nat.le_refl _⟩, ⟨by refine ZQ ?_; exact Kd.R_mono HO1231.out (fun _ hk => hk.2)⟩, ⟨by refine ZQ ?_; exact Kd.R_mono HO1235.out (fun _ hk => hk.2)⟩, ⟨ZB⟩⟩
   ·rw [if_neg c11] at H
    have c11b0 : (t1229 == t1233) = false := beq_eq_false_iff_ne.mpr c11
    have c11b1 : (t1229 != t1233) = true := bne_iff_ne.mpr c11
    (first | rw [c11b0] | (simp only [i64_w, i32_w]; rw [c11b0]) | skip)
    have H' := Aside0.mk H
    clear H
    go_wp2
    repeat (go_quiet (fail); try go_wp2)
    go_meet
    case rel => exact ⟨_, (true), (ZqS), H', ⟨by first | omega | exact Nat.le_refl _⟩, ⟨by refine ZQ ?_; exact Kd.R_mono HO1231.out (fun _ hk => hk.2)⟩, ⟨by refine ZQ ?_; exact Kd.R_mono HO1235.out (fun _ hk => hk.2)⟩, ⟨ZB⟩⟩
  case rest =>
   clear HC7
   try clear c1
   try clear p2
   try clear c3
   try clear c4
   try clear c11
   try clear c11b0
   try clear c11b1
   obtain ⟨kq, x100_6, rfl, HA, HJ6, HO_7, HO_9, HB⟩ := hcut
   cases kq with
   | zero => exact absurd HA.out (by simp [laws_FnPathCounts.j0])
   | succ kj6 =>
    have H := HA.out
    clear HA
    simp only [laws_FnPathCounts.j0] at H
    by_cases c14 : x100_6 = true
    ·subst c14
     rw [if_pos rfl] at H
     exact absurd (H.trans (congrArg some hT.out)) (by simp)
    ·replace c14 := Bool.eq_false_iff.mpr c14
     subst c14
     rw [if_neg (show ¬ (false = true) by decide)] at H
     replace H := Option.bind_eq_some_iff.mp H
     obtain ⟨⟨t1236, t1237⟩, A150, H⟩ := H
     try dsimp only at H
     have A15 := Aside0.mk A150
     clear A150
     replace H := Option.bind_eq_some_iff.mp H
     obtain ⟨⟨t1238, t1239⟩, A160, H⟩ := H
     try dsimp only at H
     have A16 := Aside0.mk A160
     clear A160
     have HC17 := Aside0.mk H
     clear H
     go_upto_region 10 with (first | (go_at_call 28; (with_reducible refine (impl_CountPaths.calls kj6 t1224 t1225 t1226 t1227 t1236 t1237 _ A15.out).mono ?_); rintro e w18 ⟨rfl, hb⟩; have n0_ := Aside0.mk (Kd.R_below (ZR HO_7) hb); have n1_ := Aside0.mk (Kd.R_below (ZR HO_9) hb); have n2_ := Aside0.mk (below_step ZB hb); clear HO_7 HO_9 HB; have HO_7 := n0_; have HO_9 := n1_; have HB := n2_; clear n0_ n1_ n2_; (try clear hb)) | (go_at_call 29; (with_reducible refine (impl_CountLevelPaths.calls kj6 t1224 t1225 t1226 t1227 t1238 t1239 _ A16.out).mono ?_); rintro e w19 ⟨rfl, hb⟩; have n0_ := Aside0.mk (Kd.R_below (ZR HO_7) hb); have n1_ := Aside0.mk (Kd.R_below (ZR HO_9) hb); have n2_ := Aside0.mk (below_step ZB hb); clear HO_7 HO_9 HB; have HO_7 := n0_; have HO_9 := n1_; have HB := n2_; clear n0_ n1_ n2_; (try clear hb)))
     repeat (go_quiet (first | (go_at_call 28; (with_reducible refine (impl_CountPaths.calls kj6 t1224 t1225 t1226 t1227 t1236 t1237 _ A15.out).mono ?_); rintro e w18 ⟨rfl, hb⟩; have n0_ := Aside0.mk (Kd.R_below (ZR HO_7) hb); have n1_ := Aside0.mk (Kd.R_below (ZR HO_9) hb); have n2_ := Aside0.mk (below_step ZB hb); clear HO_7 HO_9 HB; have HO_7 := n0_; have HO_9 := n1_; have HB := n2_; clear n0_ n1_ n2_; (try clear hb)) | (go_at_call 29; (with_reducible refine (impl_CountLevelPaths.calls kj6 t1224 t1225 t1226 t1227 t1238 t1239 _ A16.out).mono ?_); rintro e w19 ⟨rfl, hb⟩; have n0_ := Aside0.mk (Kd.R_below (ZR HO_7) hb); have n1_ := Aside0.mk (Kd.R_below (ZR HO_9) hb); have n2_ := Aside0.mk (below_step ZB hb); clear HO_7 HO_9 HB; have HO_7 := n0_; have HO_9 := n1_; have HB := n2_; clear n0_ n1_ n2_; (try clear hb))); go_upto_region 10 with (first | (go_at_call 28; (with_reducible refine (impl_CountPaths.calls kj6 t1224 t1225 t1226 t1227 t1236 t1237 _ A15.out).mono ?_); rintro e w18 ⟨rfl, hb⟩; have n0_ := Aside0.mk (Kd.R_below (ZR HO_7) hb); have n1_ := Aside0.mk (Kd.R_below (ZR HO_9) hb); have n2_ := Aside0.mk (below_step ZB hb); clear HO_7 HO_9 HB; have HO_7 := n0_; have HO_9 := n1_; have HB := n2_; clear n0_ n1_ n2_; (try clear hb)) | (go_at_call 29; (with_reducible refine (impl_CountLevelPaths.calls kj6 t1224 t1225 t1226 t1227 t1238 t1239 _ A16.out).mono ?_); rintro e w19 ⟨rfl, hb⟩; have n0_ := Aside0.mk (Kd.R_below (ZR HO_7) hb); have n1_ := Aside0.mk (Kd.R_below (ZR HO_9) hb); have n2_ := Aside0.mk (below_step ZB hb); clear HO_7 HO_9 HB; have HO_7 := n0_; have HO_9 := n1_; have HB := n2_; clear n0_ n1_ n2_; (try clear hb))))
     (try simp only [Act.put, List.setIfInBounds_toArray, List.set_cons_zero, List.set_cons_succ])
     go_cut [137] from 100000 to 0 (fun v137 wc => ∃ (kq : Nat) (x137_16 : Bool), v137 = .bool x137_16 ∧ Aside0 (laws_FnPathCounts.j1 kq l0 t1224 t1225 t1226 t1228 t1232 x137_16 = some r) ∧ Aside0 (kq ≤ kj6) ∧ Aside0 (Kd.R Kd.string 9 wc w.heap.size (fun k_ => some k_ ≠ (v1234 : Value).ownBlock) v1230 t1228) ∧ Aside0 (Kd.R Kd.string 9 wc w.heap.size (fun k_ => some k_ ≠ (v1230 : Value).ownBlock) v1234 t1232) ∧ Aside0 (Below w.heap.size w wc))
     case first =>
      have H := HC17.out
      clear HC17
      by_cases c20 : t1229 = 0
      ·rw [if_pos c20] at H
       have c20b0 : (t1229 == 0) = true := beq_iff_eq.mpr c20
       have c20b1 : (t1229 != 0) = false := bne_eq_false_iff_eq.mpr c20
       clear c20
       (first | rw [c20b0] | (simp only [i64_w, i32_w]; rw [c20b0]) | skip)
       by_cases c21 : t1237 = 0
       ·rw [if_pos c21] at H
        have c21b0 : (t1237 == 0) = true := beq_iff_eq.mpr c21
        have c21b1 : (t1237 != 0) = false := bne_eq_false_iff_eq.mpr c21
        clear c21
        by_cases c22 : t1239 = 0
        ·rw [if_pos c22] at H
         have c22b0 : (t1239 == 0) = true := beq_iff_eq.mpr c22
         have c22b1 : (t1239 != 0) = false := bne_eq_false_iff_eq.mpr c22
         clear c22
         by_cases c23 : t1236 = (t1228.length : Int)
         ·rw [if_pos c23] at H
          have c23b0 : (t1236 == (t1228.length : Int)) = true := beq_iff_eq.mpr c23
          have c23b1 : (t1236 != (t1228.length : Int)) = false := bne_eq_false_iff_eq.mpr c23
          clear c23
          have H' := Aside0.mk H
          clear H
          obtain ⟨Ao24, co24, eo24⟩ := Kd.R_slice HO_7.out
          subst eo24
          go_wp2
          repeat (go_quiet (fail); try go_wp2)
          go_meet
          case rel => exact ⟨_, (decide (t1238 > t1236)), (ZqS), H', ⟨by have := HJ6.out; first | omega | exact Nat.le_refl _⟩, ⟨ZR HO_7⟩, ⟨ZR HO_9⟩, ⟨ZB⟩⟩
         ·rw [if_neg c23] at H
          have c23b0 : (t1236 == (t1228.length : Int)) = false := beq_eq_false_iff_ne.mpr c23
          have c23b1 : (t1236 != (t1228.length : Int)) = true := bne_iff_ne.mpr c23
          have H' := Aside0.mk H
          clear H
          obtain ⟨Ao25, co25, eo25⟩ := Kd.R_slice HO_7.out
          subst eo25
          go_wp2
          repeat (go_quiet (fail); try go_wp2)
          go_meet
          case rel => exact ⟨_, (true), (ZqS), H', ⟨by have := HJ6.out; first | omega | exact Nat.le_refl _⟩, ⟨ZR HO_7⟩, ⟨ZR HO_9⟩, ⟨ZB⟩⟩
        ·rw [if_neg c22] at H
         have c22b0 : (t1239 == 0) = false := beq_eq_false_iff_ne.mpr c22
         have c22b1 : (t1239 != 0) = true := bne_iff_ne.mpr c22
         have H' := Aside0.mk H
         clear H
         go_wp2
         repeat (go_quiet (fail); try go_wp2)
         go_meet
         case rel => exact ⟨_, (true), (ZqS), H', ⟨by have := HJ6.out; first | omega | exact Nat.le_refl _⟩, ⟨ZR HO_7⟩, ⟨ZR HO_9⟩, ⟨ZB⟩⟩
       ·rw [if_neg c21] at H
        have c21b0 : (t1237 == 0) = false := beq_eq_false_iff_ne.mpr c21
        have c21b1 : (t1237 != 0) = true := bne_iff_ne.mpr c21
        have H' := Aside0.mk H
        clear H
        go_wp2
        repeat (go_quiet (fail); try go_wp2)
        go_meet
        case rel => exact ⟨_, (true), (ZqS), H', ⟨by have := HJ6.out; first | omega | exact Nat.le_refl _⟩, ⟨ZR HO_7⟩, ⟨ZR HO_9⟩, ⟨ZB⟩⟩
      ·rw [if_neg c20] at H
       have c20b0 : (t1229 == 0) = false := beq_eq_false_iff_ne.mpr c20
       have c20b1 : (t1229 != 0) = true := bne_iff_ne.mpr c20
       (first | rw [c20b0] | (simp only [i64_w, i32_w]; rw [c20b0]) | skip)
       have H' := Aside0.mk H
       clear H
       go_wp2
       repeat (go_quiet (fail); try go_wp2)
       go_meet
       case rel => exact ⟨_, (false), (ZqS), H', ⟨by have := HJ6.out; first | omega | exact Nat.le_refl _⟩, ⟨ZR HO_7⟩, ⟨ZR HO_9⟩, ⟨ZB⟩⟩
     case rest =>
      clear HC17
      try clear c1
      try clear c2
      try clear p2
      try clear c3
      try clear c4
      try clear c11
      try clear c11b0
      try clear c11b1
      try clear c14
      try clear c20
      try clear c20b0
      try clear c20b1
      try clear c21
      try clear c21b0
      try clear c21b1
      try clear c22
      try clear c22b0
      try clear c22b1
      try clear c23
      try clear c23b0
      try clear c23b1
      try clear p2
      obtain ⟨kq, x137_16, rfl, HA, HJ16, HO_7, HO_9, HB⟩ := hcut
      cases kq with
      | zero => exact absurd HA.out (by simp [laws_FnPathCounts.j1])
      | succ kj16 =>
       have H := HA.out
       clear HA
       simp only [laws_FnPathCounts.j1] at H
       by_cases c26 : x137_16 = true
       ·subst c26
        rw [if_pos rfl] at H
        exact absurd (H.trans (congrArg some hT.out)) (by simp)
       ·replace c26 := Bool.eq_false_iff.mpr c26
        subst c26
        rw [if_neg (show ¬ (false = true) by decide)] at H
        have H' := Aside0.mk H
        clear H
        go_wp2
        repeat (go_quiet (fail); try go_wp2)
        go_loopg [15] kj16 (fun kq v15 w' => ∃ (x15_3 : Int), v15 = .int .i64 x15_3 ∧ Aside0 (laws_FnPathCounts.l0 kq l0 t1224 t1225 t1226 t1228 t1232 x15_3 = some r) ∧ Aside0 (kq ≤ kj16) ∧ Aside0 (Kd.R Kd.string 9 w' w.heap.size (fun k_ => some k_ ≠ (v1234 : Value).ownBlock) v1230 t1228) ∧ Aside0 (Kd.R Kd.string 9 w' w.heap.size (fun k_ => some k_ ≠ (v1230 : Value).ownBlock) v1234 t1232) ∧ Aside0 (Below w.heap.size w w'))
        case atStart => exact ⟨(0), (ZqS), H', ⟨Nat.le_refl _⟩, ⟨ZR HO_7⟩, ⟨ZR HO_9⟩, ⟨ZB⟩⟩
        case round =>
         clear H'
         try clear c1
         try clear c2
         try clear p2
         try clear c3
         try clear c4
         try clear c11
         try clear c11b0
         try clear c11b1
         try clear c14
         try clear c20
         try clear c20b0
         try clear c20b1
         try clear c21
         try clear c21b0
         try clear c21b1
         try clear c22
         try clear c22b0
         try clear c22b1
         try clear c23
         try clear c23b0
         try clear c23b1
         try clear c26
         try clear p2
         obtain ⟨x15_3, rfl, HA, HK3, HO_7, HO_9, HB⟩ := hrel
         cases gk with
         | zero => exact absurd HA.out (by simp [laws_FnPathCounts.l0])
         | succ k3 =>
          have H := HA.out
          clear HA
          simp only [laws_FnPathCounts.l0] at H
          by_cases c27 : x15_3 < (t1228.length : Int)
          ·rw [if_pos c27] at H
           have c27b0 : decide (x15_3 < (t1228.length : Int)) = true := decide_eq_true c27
           clear c27
           by_cases c28 : 0 ≤ x15_3
           ·rw [if_pos c28] at H
            have c28b0 : decide (0 ≤ x15_3) = true := decide_eq_true c28
            clear c28
            replace H := Option.bind_eq_some_iff.mp H
            obtain ⟨⟨t1241, t1242⟩, A290, H⟩ := H
            try dsimp only at H
            have A29 := Aside0.mk A290
            clear A290
            by_cases c30 : x15_3 < (t1232.length : Int)
            ·rw [if_pos c30] at H
             have c30b0 : decide (x15_3 < (t1232.length : Int)) = true := decide_eq_true c30
             clear c30
             by_cases c31 : (rdOf ByteArray.empty t1228 x15_3).toList = (rdOf ByteArray.empty t1232 x15_3).toList
             ·rw [if_pos c31] at H
              have c31b0 : ((rdOf ByteArray.empty t1228 x15_3).toList == (rdOf ByteArray.empty t1232 x15_3).toList) = true := beq_iff_eq.mpr c31
              have c31b1 : ((rdOf ByteArray.empty t1228 x15_3).toList != (rdOf ByteArray.empty t1232 x15_3).toList) = false := bne_eq_false_iff_eq.mpr c31
              clear c31
              by_cases c32 : t1242 = 0
              ·rw [if_pos c32] at H
               have c32b0 : (t1242 == 0) = true := beq_iff_eq.mpr c32
               have c32b1 : (t1242 != 0) = false := bne_eq_false_iff_eq.mpr c32
               clear c32
               by_cases c33 : (t1241.length : Int) = (wrap64 (t1224 + 1))
               ·rw [if_pos c33] at H
                have c33b0 : ((t1241.length : Int) == (wrap64 (t1224 + 1))) = true := beq_iff_eq.mpr c33
                have c33b1 : ((t1241.length : Int) != (wrap64 (t1224 + 1))) = false := bne_eq_false_iff_eq.mpr c33
                clear c33
                by_cases c34 : 0 ≤ t1224
                ·rw [if_pos c34] at H
                 have c34b0 : decide (0 ≤ t1224) = true := decide_eq_true c34
                 clear c34
                 by_cases c35 : t1224 < (t1241.length : Int)
                 ·rw [if_pos c35] at H
                  have c35b0 : decide (t1224 < (t1241.length : Int)) = true := decide_eq_true c35
                  clear c35
                  by_cases c36 : (rd t1241 t1224) = t1226
                  ·rw [if_pos c36] at H
                   have c36b0 : ((rd t1241 t1224) == t1226) = true := beq_iff_eq.mpr c36
                   have c36b1 : ((rd t1241 t1224) != t1226) = false := bne_eq_false_iff_eq.mpr c36
                   clear c36
                   have H' := Aside0.mk H
                   clear H
                   obtain ⟨Ao37, co37, eo37⟩ := Kd.R_slice HO_7.out
                   subst eo37
                   have p1240 : 0 ≤ (x15_3 : Int) := of_decide_eq_true (by first | (with_reducible assumption) | assumption)
                   have q1240 : x15_3 < (t1228.length : Int) := of_decide_eq_true (by first | (with_reducible assumption) | assumption)
                   obtain ⟨ad1240, e1240, hx1240_0⟩ := Kd.at_string (Kd.R_reads' HO_7.out).2.2 x15_3 p1240 q1240
                   cases e1240
                   replace p1240 := eq_true p1240
                   replace q1240 := eq_true q1240
                   go_wp2_with (first | (go_at_call 30; (with_reducible refine (impl_HeightsOf.calls k3 (rdOf ByteArray.empty t1228 x15_3) t1225 t1241 t1242 _ A29.out).mono ?_); rintro e w38 ⟨v1243, rfl, ho0, hb⟩; have n0_ := Aside0.mk (Kd.R_below (ZR HO_7) hb); have n1_ := Aside0.mk (Kd.R_below (ZR HO_9) hb); have n2_ := Aside0.mk (Kd.R_lower ho0 (below_size ZB)); have n3_ := Aside0.mk (below_step ZB hb); clear HO_7 HO_9 HB; have HO_7 := n0_; have HO_9 := n1_; have HO1244 := n2_; have HB := n3_; clear n0_ n1_ n2_ n3_; (try clear hb); (try clear ho0); have p1245 : 0 ≤ (x15_3 : Int) := of_decide_eq_true (by first | (with_reducible assumption) | assumption); have q1245 : x15_3 < (t1228.length : Int) := of_decide_eq_true (by first | (with_reducible assumption) | assumption); obtain ⟨ad1245, e1245, hx1245_0⟩ := Kd.at_string (Kd.R_reads' HO_7.out).2.2 x15_3 p1245 q1245; obtain rfl : ad1240 = ad1245 := (by injection e1245); replace p1245 := eq_true p1245; replace q1245 := eq_true q1245; obtain ⟨Ao39, co39, eo39⟩ := Kd.R_slice HO_9.out; subst eo39; have p1246 : 0 ≤ (x15_3 : Int) := of_decide_eq_true (by first | (with_reducible assumption) | assumption); have q1246 : x15_3 < (t1232.length : Int) := of_decide_eq_true (by first | (with_reducible assumption) | assumption); obtain ⟨ad1246, e1246, hx1246_0⟩ := Kd.at_string (Kd.R_reads' HO_9.out).2.2 x15_3 p1246 q1246; cases e1246; replace p1246 := eq_true p1246; replace q1246 := eq_true q1246; obtain ⟨Ao40, co40, eo40⟩ := Kd.R_slice HO1244.out; subst eo40; have p1247 : 0 ≤ (t1224 : Int) := of_decide_eq_true (by first | (with_reducible assumption) | assumption); have q1247 : t1224 < (t1241.length : Int) := of_decide_eq_true (by first | (with_reducible assumption) | assumption); obtain ⟨ad1247, e1247, hx1247_0⟩ := Kd.at_int (Kd.R_reads' HO1244.out).2.2 t1224 p1247 q1247; cases e1247; replace p1247 := eq_true p1247; replace q1247 := eq_true q1247))
                   repeat (go_quiet (first | (go_at_call 30; (with_reducible refine (impl_HeightsOf.calls k3 (rdOf ByteArray.empty t1228 x15_3) t1225 t1241 t1242 _ A29.out).mono ?_); rintro e w38 ⟨v1243, rfl, ho0, hb⟩; have n0_ := Aside0.mk (Kd.R_below (ZR HO_7) hb); have n1_ := Aside0.mk (Kd.R_below (ZR HO_9) hb); have n2_ := Aside0.mk (Kd.R_lower ho0 (below_size ZB)); have n3_ := Aside0.mk (below_step ZB hb); clear HO_7 HO_9 HB; have HO_7 := n0_; have HO_9 := n1_; have HO1244 := n2_; have HB := n3_; clear n0_ n1_ n2_ n3_; (try clear hb); (try clear ho0); have p1245 : 0 ≤ (x15_3 : Int) := of_decide_eq_true (by first | (with_reducible assumption) | assumption); have q1245 : x15_3 < (t1228.length : Int) := of_decide_eq_true (by first | (with_reducible assumption) | assumption); obtain ⟨ad1245, e1245, hx1245_0⟩ := Kd.at_string (Kd.R_reads' HO_7.out).2.2 x15_3 p1245 q1245; obtain rfl : ad1240 = ad1245 := (by injection e1245); replace p1245 := eq_true p1245; replace q1245 := eq_true q1245; obtain ⟨Ao39, co39, eo39⟩ := Kd.R_slice HO_9.out; subst eo39; have p1246 : 0 ≤ (x15_3 : Int) := of_decide_eq_true (by first | (with_reducible assumption) | assumption); have q1246 : x15_3 < (t1232.length : Int) := of_decide_eq_true (by first | (with_reducible assumption) | assumption); obtain ⟨ad1246, e1246, hx1246_0⟩ := Kd.at_string (Kd.R_reads' HO_9.out).2.2 x15_3 p1246 q1246; cases e1246; replace p1246 := eq_true p1246; replace q1246 := eq_true q1246; obtain ⟨Ao40, co40, eo40⟩ := Kd.R_slice HO1244.out; subst eo40; have p1247 : 0 ≤ (t1224 : Int) := of_decide_eq_true (by first | (with_reducible assumption) | assumption); have q1247 : t1224 < (t1241.length : Int) := of_decide_eq_true (by first | (with_reducible assumption) | assumption); obtain ⟨ad1247, e1247, hx1247_0⟩ := Kd.at_int (Kd.R_reads' HO1244.out).2.2 t1224 p1247 q1247; cases e1247; replace p1247 := eq_true p1247; replace q1247 := eq_true q1247)); try go_wp2_with (first | (go_at_call 30; (with_reducible refine (impl_HeightsOf.calls k3 (rdOf ByteArray.empty t1228 x15_3) t1225 t1241 t1242 _ A29.out).mono ?_); rintro e w38 ⟨v1243, rfl, ho0, hb⟩; have n0_ := Aside0.mk (Kd.R_below (ZR HO_7) hb); have n1_ := Aside0.mk (Kd.R_below (ZR HO_9) hb); have n2_ := Aside0.mk (Kd.R_lower ho0 (below_size ZB)); have n3_ := Aside0.mk (below_step ZB hb); clear HO_7 HO_9 HB; have HO_7 := n0_; have HO_9 := n1_; have HO1244 := n2_; have HB := n3_; clear n0_ n1_ n2_ n3_; (try clear hb); (try clear ho0); have p1245 : 0 ≤ (x15_3 : Int) := of_decide_eq_true (by first | (with_reducible assumption) | assumption); have q1245 : x15_3 < (t1228.length : Int) := of_decide_eq_true (by first | (with_reducible assumption) | assumption); obtain ⟨ad1245, e1245, hx1245_0⟩ := Kd.at_string (Kd.R_reads' HO_7.out).2.2 x15_3 p1245 q1245; obtain rfl : ad1240 = ad1245 := (by injection e1245); replace p1245 := eq_true p1245; replace q1245 := eq_true q1245; obtain ⟨Ao39, co39, eo39⟩ := Kd.R_slice HO_9.out; subst eo39; have p1246 : 0 ≤ (x15_3 : Int) := of_decide_eq_true (by first | (with_reducible assumption) | assumption); have q1246 : x15_3 < (t1232.length : Int) := of_decide_eq_true (by first | (with_reducible assumption) | assumption); obtain ⟨ad1246, e1246, hx1246_0⟩ := Kd.at_string (Kd.R_reads' HO_9.out).2.2 x15_3 p1246 q1246; cases e1246; replace p1246 := eq_true p1246; replace q1246 := eq_true q1246; obtain ⟨Ao40, co40, eo40⟩ := Kd.R_slice HO1244.out; subst eo40; have p1247 : 0 ≤ (t1224 : Int) := of_decide_eq_true (by first | (with_reducible assumption) | assumption); have q1247 : t1224 < (t1241.length : Int) := of_decide_eq_true (by first | (with_reducible assumption) | assumption); obtain ⟨ad1247, e1247, hx1247_0⟩ := Kd.at_int (Kd.R_reads' HO1244.out).2.2 t1224 p1247 q1247; cases e1247; replace p1247 := eq_true p1247; replace q1247 := eq_true q1247)))
                   go_roundg k3
                   case measure => have := HJ6.out; have := HJ16.out; have := HK3.out; omega
                   case rel => exact ⟨(wrap64 (x15_3 + 1)), (ZqS), H', ⟨by have := HJ6.out; have := HJ16.out; have := HK3.out; omega⟩, ⟨ZR HO_7⟩, ⟨ZR HO_9⟩, ⟨ZB⟩⟩
                  ·rw [if_neg c36] at H
                   have c36b0 : ((rd t1241 t1224) == t1226) = false := beq_eq_false_iff_ne.mpr c36
                   have c36b1 : ((rd t1241 t1224) != t1226) = true := bne_iff_ne.mpr c36
                   exact absurd (H.trans (congrArg some hT.out)) (by simp)
                 ·rw [if_neg c35] at H
                  exact absurd H (by simp)
                ·rw [if_neg c34] at H
                 exact absurd H (by simp)
               ·rw [if_neg c33] at H
                have c33b0 : ((t1241.length : Int) == (wrap64 (t1224 + 1))) = false := beq_eq_false_iff_ne.mpr c33
                have c33b1 : ((t1241.length : Int) != (wrap64 (t1224 + 1))) = true := bne_iff_ne.mpr c33
                exact absurd (H.trans (congrArg some hT.out)) (by simp)
              ·rw [if_neg c32] at H
               have c32b0 : (t1242 == 0) = false := beq_eq_false_iff_ne.mpr c32
               have c32b1 : (t1242 != 0) = true := bne_iff_ne.mpr c32
               exact absurd (H.trans (congrArg some hT.out)) (by simp)
             ·rw [if_neg c31] at H
              have c31b0 : ((rdOf ByteArray.empty t1228 x15_3).toList == (rdOf ByteArray.empty t1232 x15_3).toList) = false := beq_eq_false_iff_ne.mpr c31
              have c31b1 : ((rdOf ByteArray.empty t1228 x15_3).toList != (rdOf ByteArray.empty t1232 x15_3).toList) = true := bne_iff_ne.mpr c31
              exact absurd (H.trans (congrArg some hT.out)) (by simp)
            ·rw [if_neg c30] at H
             exact absurd H (by simp)
           ·rw [if_neg c28] at H
            exact absurd H (by simp)
          ·rw [if_neg c27] at H
           have c27b0 : decide (x15_3 < (t1228.length : Int)) = false := decide_eq_false c27
           clear c27
           replace H := Option.bind_eq_some_iff.mp H
           obtain ⟨⟨t1248, t1249⟩, A410, H⟩ := H
           try dsimp only at H
           have A41 := Aside0.mk A410
           clear A410
           replace H := Option.bind_eq_some_iff.mp H
           obtain ⟨⟨t1250, t1251⟩, A420, H⟩ := H
           try dsimp only at H
           have A42 := Aside0.mk A420
           clear A420
           replace H := Option.bind_eq_some_iff.mp H
           obtain ⟨⟨t1252, t1253⟩, A430, H⟩ := H
           try dsimp only at H
           have A43 := Aside0.mk A430
           clear A430
           have HC44 := Aside0.mk H
           clear H
           obtain ⟨Ao45, co45, eo45⟩ := Kd.R_slice HO_7.out
           subst eo45
           go_upto_region 21 with (first | (go_at_call 31; (with_reducible refine (spec_DrawReversePath.calls k3 _ _ l0 t1248 t1249 _ ?side1 ?side2 A41.out).mono ?_); (case side1 => exact ZC HR0); (case side2 => exact HC0.out); rintro e w46 ⟨rfl, hb⟩; have n0_ := Aside0.mk (Kd.R_below (ZR HO_7) hb); have n1_ := Aside0.mk (Kd.R_below (ZR HO_9) hb); have n2_ := Aside0.mk (below_step ZB hb); clear HO_7 HO_9 HB; have HO_7 := n0_; have HO_9 := n1_; have HB := n2_; clear n0_ n1_ n2_; (try clear hb)) | (go_at_call 32; (with_reducible refine (impl_ReversePath.calls k3 t1248 t1249 t1250 t1251 _ A42.out).mono ?_); rintro e w47 ⟨rfl, hb⟩; have n0_ := Aside0.mk (Kd.R_below (ZR HO_7) hb); have n1_ := Aside0.mk (Kd.R_below (ZR HO_9) hb); have n2_ := Aside0.mk (below_step ZB hb); clear HO_7 HO_9 HB; have HO_7 := n0_; have HO_9 := n1_; have HB := n2_; clear n0_ n1_ n2_; (try clear hb)) | (go_at_call 33; (with_reducible refine (spec_ReversePath.calls k3 t1248 t1249 t1252 t1253 _ A43.out).mono ?_); rintro e w48 ⟨rfl, hb⟩; have n0_ := Aside0.mk (Kd.R_below (ZR HO_7) hb); have n1_ := Aside0.mk (Kd.R_below (ZR HO_9) hb); have n2_ := Aside0.mk (below_step ZB hb); clear HO_7 HO_9 HB; have HO_7 := n0_; have HO_9 := n1_; have HB := n2_; clear n0_ n1_ n2_; (try clear hb)))
           repeat (go_quiet (first | (go_at_call 31; (with_reducible refine (spec_DrawReversePath.calls k3 _ _ l0 t1248 t1249 _ ?side1 ?side2 A41.out).mono ?_); (case side1 => exact ZC HR0); (case side2 => exact HC0.out); rintro e w46 ⟨rfl, hb⟩; have n0_ := Aside0.mk (Kd.R_below (ZR HO_7) hb); have n1_ := Aside0.mk (Kd.R_below (ZR HO_9) hb); have n2_ := Aside0.mk (below_step ZB hb); clear HO_7 HO_9 HB; have HO_7 := n0_; have HO_9 := n1_; have HB := n2_; clear n0_ n1_ n2_; (try clear hb)) | (go_at_call 32; (with_reducible refine (impl_ReversePath.calls k3 t1248 t1249 t1250 t1251 _ A42.out).mono ?_); rintro e w47 ⟨rfl, hb⟩; have n0_ := Aside0.mk (Kd.R_below (ZR HO_7) hb); have n1_ := Aside0.mk (Kd.R_below (ZR HO_9) hb); have n2_ := Aside0.mk (below_step ZB hb); clear HO_7 HO_9 HB; have HO_7 := n0_; have HO_9 := n1_; have HB := n2_; clear n0_ n1_ n2_; (try clear hb)) | (go_at_call 33; (with_reducible refine (spec_ReversePath.calls k3 t1248 t1249 t1252 t1253 _ A43.out).mono ?_); rintro e w48 ⟨rfl, hb⟩; have n0_ := Aside0.mk (Kd.R_below (ZR HO_7) hb); have n1_ := Aside0.mk (Kd.R_below (ZR HO_9) hb); have n2_ := Aside0.mk (below_step ZB hb); clear HO_7 HO_9 HB; have HO_7 := n0_; have HO_9 := n1_; have HB := n2_; clear n0_ n1_ n2_; (try clear hb))); go_upto_region 21 with (first | (go_at_call 31; (with_reducible refine (spec_DrawReversePath.calls k3 _ _ l0 t1248 t1249 _ ?side1 ?side2 A41.out).mono ?_); (case side1 => exact ZC HR0); (case side2 => exact HC0.out); rintro e w46 ⟨rfl, hb⟩; have n0_ := Aside0.mk (Kd.R_below (ZR HO_7) hb); have n1_ := Aside0.mk (Kd.R_below (ZR HO_9) hb); have n2_ := Aside0.mk (below_step ZB hb); clear HO_7 HO_9 HB; have HO_7 := n0_; have HO_9 := n1_; have HB := n2_; clear n0_ n1_ n2_; (try clear hb)) | (go_at_call 32; (with_reducible refine (impl_ReversePath.calls k3 t1248 t1249 t1250 t1251 _ A42.out).mono ?_); rintro e w47 ⟨rfl, hb⟩; have n0_ := Aside0.mk (Kd.R_below (ZR HO_7) hb); have n1_ := Aside0.mk (Kd.R_below (ZR HO_9) hb); have n2_ := Aside0.mk (below_step ZB hb); clear HO_7 HO_9 HB; have HO_7 := n0_; have HO_9 := n1_; have HB := n2_; clear n0_ n1_ n2_; (try clear hb)) | (go_at_call 33; (with_reducible refine (spec_ReversePath.calls k3 t1248 t1249 t1252 t1253 _ A43.out).mono ?_); rintro e w48 ⟨rfl, hb⟩; have n0_ := Aside0.mk (Kd.R_below (ZR HO_7) hb); have n1_ := Aside0.mk (Kd.R_below (ZR HO_9) hb); have n2_ := Aside0.mk (below_step ZB hb); clear HO_7 HO_9 HB; have HO_7 := n0_; have HO_9 := n1_; have HB := n2_; clear n0_ n1_ n2_; (try clear hb))))
           (try simp only [Act.put, List.setIfInBounds_toArray, List.set_cons_zero, List.set_cons_succ])
           go_cut [205] from 100000 to 0 (fun v205 wc => ∃ (kq : Nat) (x205_43 : Bool), v205 = .bool x205_43 ∧ Aside0 (laws_FnPathCounts.j3 kq l0 t1248 t1249 t1250 t1251 x205_43 = some r) ∧ Aside0 (kq ≤ k3) ∧ Aside0 (Below w.heap.size w wc))
           case first =>
            have H := HC44.out
            clear HC44
            by_cases c49 : t1251 = t1253
            ·rw [if_pos c49] at H
             have c49b0 : (t1251 == t1253) = true := beq_iff_eq.mpr c49
             have c49b1 : (t1251 != t1253) = false := bne_eq_false_iff_eq.mpr c49
             clear c49
             (first | rw [c49b0] | (simp only [i64_w, i32_w]; rw [c49b0]) | skip)
             have H' := Aside0.mk H
             clear H
             go_wp2
             repeat (go_quiet (fail); try go_wp2)
             go_meet
             case rel => exact ⟨_, ((t1250.toList != t1252.toList)), (ZqS), H', ⟨by have := HJ6.out; have := HJ16.out; have := HK3.out; first | omega | exact Nat.le_refl _⟩, ⟨ZB⟩⟩
            ·rw [if_neg c49] at H
             have c49b0 : (t1251 == t1253) = false := beq_eq_false_iff_ne.mpr c49
             have c49b1 : (t1251 != t1253) = true := bne_iff_ne.mpr c49
             (first | rw [c49b0] | (simp only [i64_w, i32_w]; rw [c49b0]) | skip)
             have H' := Aside0.mk H
             clear H
             go_wp2
             repeat (go_quiet (fail); try go_wp2)
             go_meet
             case rel => exact ⟨_, (true), (ZqS), H', ⟨by have := HJ6.out; have := HJ16.out; have := HK3.out; first | omega | exact Nat.le_refl _⟩, ⟨ZB⟩⟩
           case rest =>
            clear HC44
            try clear c1
            try clear p1
            try clear q1
            try clear hx1
            try clear c2
            try clear p2
            try clear c3
            try clear c4
            try clear p6
            try clear c11
            try clear c11b0
            try clear c11b1
            try clear p12
            try clear q12
            try clear hx12
            try clear c14
            try clear c20
            try clear c20b0
            try clear c20b1
            try clear c21
            try clear c21b0
            try clear c21b1
            try clear c22
            try clear c22b0
            try clear c22b1
            try clear c23
            try clear c23b0
            try clear c23b1
            try clear c26
            try clear c27
            try clear c27b0
            try clear c28
            try clear c28b0
            try clear c30
            try clear c30b0
            try clear c31
            try clear c31b0
            try clear c31b1
            try clear c32
            try clear c32b0
            try clear c32b1
            try clear c33
            try clear c33b0
            try clear c33b1
            try clear c34
            try clear c34b0
            try clear c35
            try clear c35b0
            try clear c36
            try clear c36b0
            try clear c36b1
            try clear c49
            try clear c49b0
            try clear c49b1
            try clear hx1240_0
            try clear hx1245_0
            try clear hx1246_0
            try clear hx1247_0
            try clear p1240
            try clear p1245
            try clear p1246
            try clear p1247
            try clear p2
            try clear q1240
            try clear q1245
            try clear q1246
            try clear q1247
            obtain ⟨kq, x205_43, rfl, HA, HJ43, HB⟩ := hcut
            cases kq with
            | zero => exact absurd HA.out (by simp [laws_FnPathCounts.j3])
            | succ kj43 =>
             have H := HA.out
             clear HA
             simp only [laws_FnPathCounts.j3] at H
             by_cases c50 : x205_43 = true
             ·subst c50
              rw [if_pos rfl] at H
              exact absurd (H.trans (congrArg some hT.out)) (by simp)
             ·replace c50 := Bool.eq_false_iff.mpr c50
              subst c50
              rw [if_neg (show ¬ (false = true) by decide)] at H
              have HC51 := Aside0.mk H
              clear H
              go_upto_if 207 with (fail)
              repeat (go_quiet (fail); go_upto_if 207 with (fail))
              go_cut [] from 207 to 207 (fun wc => ∃ (kq : Nat), Aside0 (laws_FnPathCounts.j4 kq l0 = some r) ∧ Aside0 (kq ≤ kj43) ∧ Aside0 (Below w.heap.size w wc))
              case first =>
               have H := HC51.out
               clear HC51
               by_cases c52 : t1251 = 0
               ·rw [if_pos c52] at H
                have c52b0 : (t1251 == 0) = true := beq_iff_eq.mpr c52
                have c52b1 : (t1251 != 0) = false := bne_eq_false_iff_eq.mpr c52
                clear c52
                (first | rw [c52b0] | (simp only [i64_w, i32_w]; rw [c52b0]) | skip)
                replace H := Option.bind_eq_some_iff.mp H
                obtain ⟨⟨t1254, t1255⟩, A530, H⟩ := H
                try dsimp only at H
                have A53 := Aside0.mk A530
                clear A530
                by_cases c54 : t1255 = 0
                ·rw [if_pos c54] at H
                 have c54b0 : (t1255 == 0) = true := beq_iff_eq.mpr c54
                 have c54b1 : (t1255 != 0) = false := bne_eq_false_iff_eq.mpr c54
                 clear c54
                 obtain ⟨ji55, hji55⟩ : ∃ j_ : Int, (wrap64 ((t1254.length : Int) - 1)) = j_ := ⟨_, rfl⟩
                 replace H : (if 0 ≤ (ji55) then (if (ji55) < (t1254.length : Int) then (if (rd t1254 (ji55)) ≤ 24 then ((impl_ReversePath.f kj43 t1250 (rd t1254 (ji55))).bind fun bt1259 => (if bt1259.2 = 0 then (if bt1259.1.toList = t1248.toList then (laws_FnPathCounts.j4 kj43 l0) else (some false)) else (some false))) else (laws_FnPathCounts.j4 kj43 l0)) else (none)) else (none)) = some r := by first | (rw [hji55] at H; exact H) | (simp only [hji55] at H ⊢; exact H)
                 (try rw [hji55] at A53)
                 have hji55w : (IntKind.i64.wrap ((t1254.length : Int) - 1)) = ji55 := (i64_w _).trans hji55
                 by_cases c56 : 0 ≤ (ji55)
                 ·rw [if_pos c56] at H
                  have c56b0 : decide (0 ≤ (ji55)) = true := decide_eq_true c56
                  clear c56
                  by_cases c57 : (ji55) < (t1254.length : Int)
                  ·rw [if_pos c57] at H
                   have c57b0 : decide ((ji55) < (t1254.length : Int)) = true := decide_eq_true c57
                   clear c57
                   by_cases c58 : (rd t1254 (ji55)) ≤ 24
                   ·rw [if_pos c58] at H
                    have c58b0 : decide ((rd t1254 (ji55)) ≤ 24) = true := decide_eq_true c58
                    clear c58
                    replace H := Option.bind_eq_some_iff.mp H
                    obtain ⟨⟨t1259, t1260⟩, A590, H⟩ := H
                    try dsimp only at H
                    have A59 := Aside0.mk A590
                    clear A590
                    by_cases c60 : t1260 = 0
                    ·rw [if_pos c60] at H
                     have c60b0 : (t1260 == 0) = true := beq_iff_eq.mpr c60
                     have c60b1 : (t1260 != 0) = false := bne_eq_false_iff_eq.mpr c60
                     clear c60
                     by_cases c61 : t1259.toList = t1248.toList
                     ·rw [if_pos c61] at H
                      have c61b0 : (t1259.toList == t1248.toList) = true := beq_iff_eq.mpr c61
                      have c61b1 : (t1259.toList != t1248.toList) = false := bne_eq_false_iff_eq.mpr c61
                      clear c61
                      have H' := Aside0.mk H
                      clear H
                      go_wp2_with (first | (go_at_call 30; (with_reducible refine (impl_HeightsOf.calls kj43 t1248 t1249 t1254 t1255 _ A53.out).mono ?_); rintro e w62 ⟨v1256, rfl, ho0, hb⟩; have n0_ := Aside0.mk (Kd.R_lower ho0 (below_size ZB)); have n1_ := Aside0.mk (below_step ZB hb); clear HB; have HO1257 := n0_; have HB := n1_; clear n0_ n1_; (try clear hb); (try clear ho0); obtain ⟨Ao63, co63, eo63⟩ := Kd.R_slice HO1257.out; subst eo63; have p1258 : 0 ≤ ((ji55) : Int) := of_decide_eq_true (by first | (with_reducible assumption) | assumption); have q1258 : (ji55) < (t1254.length : Int) := of_decide_eq_true (by first | (with_reducible assumption) | assumption); obtain ⟨ad1258, e1258, hx1258_0⟩ := Kd.at_int (Kd.R_reads' HO1257.out).2.2 (ji55) p1258 q1258; cases e1258; replace p1258 := eq_true p1258; replace q1258 := eq_true q1258) | (go_at_call 32; (with_reducible refine (impl_ReversePath.calls kj43 t1250 (rd t1254 (ji55)) t1259 t1260 _ A59.out).mono ?_); rintro e w64 ⟨rfl, hb⟩; have n0_ := Aside0.mk (Kd.R_below (ZR HO1257) hb); have n1_ := Aside0.mk (below_step ZB hb); clear HO1257 HB; have HO1257 := n0_; have HB := n1_; clear n0_ n1_; (try clear hb)))
                      repeat (go_quiet (first | (go_at_call 30; (with_reducible refine (impl_HeightsOf.calls kj43 t1248 t1249 t1254 t1255 _ A53.out).mono ?_); rintro e w62 ⟨v1256, rfl, ho0, hb⟩; have n0_ := Aside0.mk (Kd.R_lower ho0 (below_size ZB)); have n1_ := Aside0.mk (below_step ZB hb); clear HB; have HO1257 := n0_; have HB := n1_; clear n0_ n1_; (try clear hb); (try clear ho0); obtain ⟨Ao63, co63, eo63⟩ := Kd.R_slice HO1257.out; subst eo63; have p1258 : 0 ≤ ((ji55) : Int) := of_decide_eq_true (by first | (with_reducible assumption) | assumption); have q1258 : (ji55) < (t1254.length : Int) := of_decide_eq_true (by first | (with_reducible assumption) | assumption); obtain ⟨ad1258, e1258, hx1258_0⟩ := Kd.at_int (Kd.R_reads' HO1257.out).2.2 (ji55) p1258 q1258; cases e1258; replace p1258 := eq_true p1258; replace q1258 := eq_true q1258) | (go_at_call 32; (with_reducible refine (impl_ReversePath.calls kj43 t1250 (rd t1254 (ji55)) t1259 t1260 _ A59.out).mono ?_); rintro e w64 ⟨rfl, hb⟩; have n0_ := Aside0.mk (Kd.R_below (ZR HO1257) hb); have n1_ := Aside0.mk (below_step ZB hb); clear HO1257 HB; have HO1257 := n0_; have HB := n1_; clear n0_ n1_; (try clear hb))); try go_wp2_with (first | (go_at_call 30; (with_reducible refine (impl_HeightsOf.calls kj43 t1248 t1249 t1254 t1255 _ A53.out).mono ?_); rintro e w62 ⟨v1256, rfl, ho0, hb⟩; have n0_ := Aside0.mk (Kd.R_lower ho0 (below_size ZB)); have n1_ := Aside0.mk (below_step ZB hb); clear HB; have HO1257 := n0_; have HB := n1_; clear n0_ n1_; (try clear hb); (try clear ho0); obtain ⟨Ao63, co63, eo63⟩ := Kd.R_slice HO1257.out; subst eo63; have p1258 : 0 ≤ ((ji55) : Int) := of_decide_eq_true (by first | (with_reducible assumption) | assumption); have q1258 : (ji55) < (t1254.length : Int) := of_decide_eq_true (by first | (with_reducible assumption) | assumption); obtain ⟨ad1258, e1258, hx1258_0⟩ := Kd.at_int (Kd.R_reads' HO1257.out).2.2 (ji55) p1258 q1258; cases e1258; replace p1258 := eq_true p1258; replace q1258 := eq_true q1258) | (go_at_call 32; (with_reducible refine (impl_ReversePath.calls kj43 t1250 (rd t1254 (ji55)) t1259 t1260 _ A59.out).mono ?_); rintro e w64 ⟨rfl, hb⟩; have n0_ := Aside0.mk (Kd.R_below (ZR HO1257) hb); have n1_ := Aside0.mk (below_step ZB hb); clear HO1257 HB; have HO1257 := n0_; have HB := n1_; clear n0_ n1_; (try clear hb))))
                      go_meet
                      case rel => exact ⟨_, H', ⟨by have := HJ6.out; have := HJ16.out; have := HK3.out; have := HJ43.out; first | omega | exact Nat.le_refl _⟩, ⟨ZB⟩⟩
                     ·rw [if_neg c61] at H
                      have c61b0 : (t1259.toList == t1248.toList) = false := beq_eq_false_iff_ne.mpr c61
                      have c61b1 : (t1259.toList != t1248.toList) = true := bne_iff_ne.mpr c61
                      exact absurd (H.trans (congrArg some hT.out)) (by simp)
                    ·rw [if_neg c60] at H
                     have c60b0 : (t1260 == 0) = false := beq_eq_false_iff_ne.mpr c60
                     have c60b1 : (t1260 != 0) = true := bne_iff_ne.mpr c60
                     exact absurd (H.trans (congrArg some hT.out)) (by simp)
                   ·rw [if_neg c58] at H
                    have c58b0 : decide ((rd t1254 (ji55)) ≤ 24) = false := decide_eq_false c58
                    clear c58
                    have H' := Aside0.mk H
                    clear H
                    go_wp2_with (first | (go_at_call 30; (with_reducible refine (impl_HeightsOf.calls kj43 t1248 t1249 t1254 t1255 _ A53.out).mono ?_); rintro e w65 ⟨v1256, rfl, ho0, hb⟩; have n0_ := Aside0.mk (Kd.R_lower ho0 (below_size ZB)); have n1_ := Aside0.mk (below_step ZB hb); clear HB; have HO1257 := n0_; have HB := n1_; clear n0_ n1_; (try clear hb); (try clear ho0); obtain ⟨Ao66, co66, eo66⟩ := Kd.R_slice HO1257.out; subst eo66; have p1258 : 0 ≤ ((ji55) : Int) := of_decide_eq_true (by first | (with_reducible assumption) | assumption); have q1258 : (ji55) < (t1254.length : Int) := of_decide_eq_true (by first | (with_reducible assumption) | assumption); obtain ⟨ad1258, e1258, hx1258_0⟩ := Kd.at_int (Kd.R_reads' HO1257.out).2.2 (ji55) p1258 q1258; cases e1258; replace p1258 := eq_true p1258; replace q1258 := eq_true q1258))
                    repeat (go_quiet (first | (go_at_call 30; (with_reducible refine (impl_HeightsOf.calls kj43 t1248 t1249 t1254 t1255 _ A53.out).mono ?_); rintro e w65 ⟨v1256, rfl, ho0, hb⟩; have n0_ := Aside0.mk (Kd.R_lower ho0 (below_size ZB)); have n1_ := Aside0.mk (below_step ZB hb); clear HB; have HO1257 := n0_; have HB := n1_; clear n0_ n1_; (try clear hb); (try clear ho0); obtain ⟨Ao66, co66, eo66⟩ := Kd.R_slice HO1257.out; subst eo66; have p1258 : 0 ≤ ((ji55) : Int) := of_decide_eq_true (by first | (with_reducible assumption) | assumption); have q1258 : (ji55) < (t1254.length : Int) := of_decide_eq_true (by first | (with_reducible assumption) | assumption); obtain ⟨ad1258, e1258, hx1258_0⟩ := Kd.at_int (Kd.R_reads' HO1257.out).2.2 (ji55) p1258 q1258; cases e1258; replace p1258 := eq_true p1258; replace q1258 := eq_true q1258)); try go_wp2_with (first | (go_at_call 30; (with_reducible refine (impl_HeightsOf.calls kj43 t1248 t1249 t1254 t1255 _ A53.out).mono ?_); rintro e w65 ⟨v1256, rfl, ho0, hb⟩; have n0_ := Aside0.mk (Kd.R_lower ho0 (below_size ZB)); have n1_ := Aside0.mk (below_step ZB hb); clear HB; have HO1257 := n0_; have HB := n1_; clear n0_ n1_; (try clear hb); (try clear ho0); obtain ⟨Ao66, co66, eo66⟩ := Kd.R_slice HO1257.out; subst eo66; have p1258 : 0 ≤ ((ji55) : Int) := of_decide_eq_true (by first | (with_reducible assumption) | assumption); have q1258 : (ji55) < (t1254.length : Int) := of_decide_eq_true (by first | (with_reducible assumption) | assumption); obtain ⟨ad1258, e1258, hx1258_0⟩ := Kd.at_int (Kd.R_reads' HO1257.out).2.2 (ji55) p1258 q1258; cases e1258; replace p1258 := eq_true p1258; replace q1258 := eq_true q1258)))
                    go_meet
                    case rel => exact ⟨_, H', ⟨by have := HJ6.out; have := HJ16.out; have := HK3.out; have := HJ43.out; first | omega | exact Nat.le_refl _⟩, ⟨ZB⟩⟩
                  ·rw [if_neg c57] at H
                   exact absurd H (by simp)
                 ·rw [if_neg c56] at H
                  exact absurd H (by simp)
                ·rw [if_neg c54] at H
                 have c54b0 : (t1255 == 0) = false := beq_eq_false_iff_ne.mpr c54
                 have c54b1 : (t1255 != 0) = true := bne_iff_ne.mpr c54
                 exact absurd (H.trans (congrArg some hT.out)) (by simp)
               ·rw [if_neg c52] at H
                have c52b0 : (t1251 == 0) = false := beq_eq_false_iff_ne.mpr c52
                have c52b1 : (t1251 != 0) = true := bne_iff_ne.mpr c52
                (first | rw [c52b0] | (simp only [i64_w, i32_w]; rw [c52b0]) | skip)
                have H' := Aside0.mk H
                clear H
                go_wp2
                repeat (go_quiet (fail); try go_wp2)
                go_meet
                case rel => exact ⟨_, H', ⟨by have := HJ6.out; have := HJ16.out; have := HK3.out; have := HJ43.out; first | omega | exact Nat.le_refl _⟩, ⟨ZB⟩⟩
              case rest =>
               clear HC51
               try clear c1
               try clear p1
               try clear q1
               try clear hx1
               try clear c2
               try clear p2
               try clear c3
               try clear c4
               try clear c5
               try clear c6
               try clear p6
               try clear c11
               try clear c11b0
               try clear c11b1
               try clear p12
               try clear q12
               try clear hx12
               try clear c14
               try clear c20
               try clear c20b0
               try clear c20b1
               try clear c21
               try clear c21b0
               try clear c21b1
               try clear c22
               try clear c22b0
               try clear c22b1
               try clear c23
               try clear c23b0
               try clear c23b1
               try clear c26
               try clear c27
               try clear c27b0
               try clear c28
               try clear c28b0
               try clear c30
               try clear c30b0
               try clear c31
               try clear c31b0
               try clear c31b1
               try clear c32
               try clear c32b0
               try clear c32b1
               try clear c33
               try clear c33b0
               try clear c33b1
               try clear c34
               try clear c34b0
               try clear c35
               try clear c35b0
               try clear c36
               try clear c36b0
               try clear c36b1
               try clear c49
               try clear c49b0
               try clear c49b1
               try clear c50
               try clear c52
               try clear c52b0
               try clear c52b1
               try clear c54
               try clear c54b0
               try clear c54b1
               try clear c56
               try clear c56b0
               try clear c57
               try clear c57b0
               try clear c58
               try clear c58b0
               try clear c60
               try clear c60b0
               try clear c60b1
               try clear c61
               try clear c61b0
               try clear c61b1
               try clear p64
               try clear hx1240_0
               try clear hx1245_0
               try clear hx1246_0
               try clear hx1247_0
               try clear hx1258_0
               try clear p1
               try clear p12
               try clear p1240
               try clear p1245
               try clear p1246
               try clear p1247
               try clear p1258
               try clear p2
               try clear p6
               try clear q1
               try clear q12
               try clear q1240
               try clear q1245
               try clear q1246
               try clear q1247
               try clear q1258
               obtain ⟨kq, HA, HJ50, HB⟩ := hcut
               cases kq with
               | zero => exact absurd HA.out (by simp [laws_FnPathCounts.j4])
               | succ kj50 =>
                have H := HA.out
                clear HA
                simp only [laws_FnPathCounts.j4] at H
                replace H := Option.bind_eq_some_iff.mp H
                obtain ⟨⟨t1261, t1262⟩, A670, H⟩ := H
                try dsimp only at H
                have A67 := Aside0.mk A670
                clear A670
                replace H := Option.bind_eq_some_iff.mp H
                obtain ⟨⟨t1263, t1264⟩, A680, H⟩ := H
                try dsimp only at H
                have A68 := Aside0.mk A680
                clear A680
                replace H := Option.bind_eq_some_iff.mp H
                obtain ⟨⟨t1265, t1266⟩, A690, H⟩ := H
                try dsimp only at H
                have A69 := Aside0.mk A690
                clear A690
                have HC70 := Aside0.mk H
                clear H
                go_upto_region 35 with (first | (go_at_call 34; (with_reducible refine (spec_DrawBallotNumber.calls kj50 _ _ l0 t1261 t1262 _ ?side1 ?side2 A67.out).mono ?_); (case side1 => exact ZC HR0); (case side2 => exact HC0.out); rintro e w71 ⟨rfl, hb⟩; have n0_ := Aside0.mk (below_step ZB hb); clear HB; have HB := n0_; clear n0_; (try clear hb)) | (go_at_call 35; (with_reducible refine (impl_BallotNumber.calls kj50 t1261 t1262 t1263 t1264 _ A68.out).mono ?_); rintro e w72 ⟨rfl, hb⟩; have n0_ := Aside0.mk (below_step ZB hb); clear HB; have HB := n0_; clear n0_; (try clear hb)) | (go_at_call 36; (with_reducible refine (spec_BallotNumber.calls kj50 t1261 t1262 t1265 t1266 _ A69.out).mono ?_); rintro e w73 ⟨rfl, hb⟩; have n0_ := Aside0.mk (below_step ZB hb); clear HB; have HB := n0_; clear n0_; (try clear hb)))
                repeat (go_quiet (first | (go_at_call 34; (with_reducible refine (spec_DrawBallotNumber.calls kj50 _ _ l0 t1261 t1262 _ ?side1 ?side2 A67.out).mono ?_); (case side1 => exact ZC HR0); (case side2 => exact HC0.out); rintro e w71 ⟨rfl, hb⟩; have n0_ := Aside0.mk (below_step ZB hb); clear HB; have HB := n0_; clear n0_; (try clear hb)) | (go_at_call 35; (with_reducible refine (impl_BallotNumber.calls kj50 t1261 t1262 t1263 t1264 _ A68.out).mono ?_); rintro e w72 ⟨rfl, hb⟩; have n0_ := Aside0.mk (below_step ZB hb); clear HB; have HB := n0_; clear n0_; (try clear hb)) | (go_at_call 36; (with_reducible refine (spec_BallotNumber.calls kj50 t1261 t1262 t1265 t1266 _ A69.out).mono ?_); rintro e w73 ⟨rfl, hb⟩; have n0_ := Aside0.mk (below_step ZB hb); clear HB; have HB := n0_; clear n0_; (try clear hb))); go_upto_region 35 with (first | (go_at_call 34; (with_reducible refine (spec_DrawBallotNumber.calls kj50 _ _ l0 t1261 t1262 _ ?side1 ?side2 A67.out).mono ?_); (case side1 => exact ZC HR0); (case side2 => exact HC0.out); rintro e w71 ⟨rfl, hb⟩; have n0_ := Aside0.mk (below_step ZB hb); clear HB; have HB := n0_; clear n0_; (try clear hb)) | (go_at_call 35; (with_reducible refine (impl_BallotNumber.calls kj50 t1261 t1262 t1263 t1264 _ A68.out).mono ?_); rintro e w72 ⟨rfl, hb⟩; have n0_ := Aside0.mk (below_step ZB hb); clear HB; have HB := n0_; clear n0_; (try clear hb)) | (go_at_call 36; (with_reducible refine (spec_BallotNumber.calls kj50 t1261 t1262 t1265 t1266 _ A69.out).mono ?_); rintro e w73 ⟨rfl, hb⟩; have n0_ := Aside0.mk (below_step ZB hb); clear HB; have HB := n0_; clear n0_; (try clear hb))))
                (try simp only [Act.put, List.setIfInBounds_toArray, List.set_cons_zero, List.set_cons_succ])
                go_cut [261] from 100000 to 0 (fun v261 wc => ∃ (kq : Nat) (x261_69 : Bool), v261 = .bool x261_69 ∧ Aside0 (laws_FnPathCounts.j5 kq l0 t1261 t1262 t1263 t1264 x261_69 = some r) ∧ Aside0 (kq ≤ kj50) ∧ Aside0 (Below w.heap.size w wc))
                case first =>
                 have H := HC70.out
                 clear HC70
                 by_cases c74 : t1264 = t1266
                 ·rw [if_pos c74] at H
                  have c74b0 : (t1264 == t1266) = true := beq_iff_eq.mpr c74
                  have c74b1 : (t1264 != t1266) = false := bne_eq_false_iff_eq.mpr c74
                  clear c74
                  (first | rw [c74b0] | (simp only [i64_w, i32_w]; rw [c74b0]) | skip)
                  have H' := Aside0.mk H
                  clear H
                  go_wp2
                  repeat (go_quiet (fail); try go_wp2)
                  go_meet
                  case rel => exact ⟨_, ((t1263 != t1265)), (ZqS), H', ⟨by have := HJ6.out; have := HJ16.out; have := HK3.out; have := HJ43.out; have := HJ50.out; first | omega | exact Nat.le_refl _⟩, ⟨ZB⟩⟩
                 ·rw [if_neg c74] at H
                  have c74b0 : (t1264 == t1266) = false := beq_eq_false_iff_ne.mpr c74
                  have c74b1 : (t1264 != t1266) = true := bne_iff_ne.mpr c74
                  (first | rw [c74b0] | (simp only [i64_w, i32_w]; rw [c74b0]) | skip)
                  have H' := Aside0.mk H
                  clear H
                  go_wp2
                  repeat (go_quiet (fail); try go_wp2)
                  go_meet
                  case rel => exact ⟨_, (true), (ZqS), H', ⟨by have := HJ6.out; have := HJ16.out; have := HK3.out; have := HJ43.out; have := HJ50.out; first | omega | exact Nat.le_refl _⟩, ⟨ZB⟩⟩
                case rest =>
                 clear HC70
                 try clear c1
                 try clear p1
                 try clear q1
                 try clear hx1
                 try clear c2
                 try clear p2
                 try clear c3
                 try clear c4
                 try clear c5
                 try clear c6
                 try clear p6
                 try clear c7
                 try clear c11
                 try clear c11b0
                 try clear c11b1
                 try clear p12
                 try clear q12
                 try clear hx12
                 try clear c14
                 try clear c20
                 try clear c20b0
                 try clear c20b1
                 try clear c21
                 try clear c21b0
                 try clear c21b1
                 try clear c22
                 try clear c22b0
                 try clear c22b1
                 try clear c23
                 try clear c23b0
                 try clear c23b1
                 try clear c26
                 try clear c27
                 try clear c27b0
                 try clear c28
                 try clear c28b0
                 try clear c30
                 try clear c30b0
                 try clear c31
                 try clear c31b0
                 try clear c31b1
                 try clear c32
                 try clear c32b0
                 try clear c32b1
                 try clear c33
                 try clear c33b0
                 try clear c33b1
                 try clear c34
                 try clear c34b0
                 try clear c35
                 try clear c35b0
                 try clear c36
                 try clear c36b0
                 try clear c36b1
                 try clear c49
                 try clear c49b0
                 try clear c49b1
                 try clear c50
                 try clear c52
                 try clear c52b0
                 try clear c52b1
                 try clear c54
                 try clear c54b0
                 try clear c54b1
                 try clear c56
                 try clear c56b0
                 try clear c57
                 try clear c57b0
                 try clear c58
                 try clear c58b0
                 try clear c60
                 try clear c60b0
                 try clear c60b1
                 try clear c61
                 try clear c61b0
                 try clear c61b1
                 try clear p64
                 try clear c74
                 try clear c74b0
                 try clear c74b1
                 try clear hx1240_0
                 try clear hx1245_0
                 try clear hx1246_0
                 try clear hx1247_0
                 try clear hx1258_0
                 try clear p1
                 try clear p12
                 try clear p1240
                 try clear p1245
                 try clear p1246
                 try clear p1247
                 try clear p1258
                 try clear p2
                 try clear p6
                 try clear p64
                 try clear q1
                 try clear q12
                 try clear q1240
                 try clear q1245
                 try clear q1246
                 try clear q1247
                 try clear q1258
                 obtain ⟨kq, x261_69, rfl, HA, HJ69, HB⟩ := hcut
                 cases kq with
                 | zero => exact absurd HA.out (by simp [laws_FnPathCounts.j5])
                 | succ kj69 =>
                  have H := HA.out
                  clear HA
                  simp only [laws_FnPathCounts.j5] at H
                  by_cases c75 : x261_69 = true
                  ·subst c75
                   rw [if_pos rfl] at H
                   exact absurd (H.trans (congrArg some hT.out)) (by simp)
                  ·replace c75 := Bool.eq_false_iff.mpr c75
                   subst c75
                   rw [if_neg (show ¬ (false = true) by decide)] at H
                   have HC76 := Aside0.mk H
                   clear H
                   go_upto_if 263 with (fail)
                   repeat (go_quiet (fail); go_upto_if 263 with (fail))
                   go_cut [] from 263 to 263 (fun wc => ∃ (kq : Nat), Aside0 (laws_FnPathCounts.j6 kq l0 = some r) ∧ Aside0 (kq ≤ kj69) ∧ Aside0 (Below w.heap.size w wc))
                   case first =>
                    have H := HC76.out
                    clear HC76
                    by_cases c77 : t1264 = 0
                    ·rw [if_pos c77] at H
                     have c77b0 : (t1264 == 0) = true := beq_iff_eq.mpr c77
                     have c77b1 : (t1264 != 0) = false := bne_eq_false_iff_eq.mpr c77
                     clear c77
                     (first | rw [c77b0] | (simp only [i64_w, i32_w]; rw [c77b0]) | skip)
                     replace H := Option.bind_eq_some_iff.mp H
                     obtain ⟨⟨t1267, t1268⟩, A780, H⟩ := H
                     try dsimp only at H
                     have A78 := Aside0.mk A780
                     clear A780
                     by_cases c79 : t1268 = 0
                     ·rw [if_pos c79] at H
                      have c79b0 : (t1268 == 0) = true := beq_iff_eq.mpr c79
                      have c79b1 : (t1268 != 0) = false := bne_eq_false_iff_eq.mpr c79
                      clear c79
                      by_cases c80 : t1267 = t1263
                      ·rw [if_pos c80] at H
                       have c80b0 : (t1267 == t1263) = true := beq_iff_eq.mpr c80
                       have c80b1 : (t1267 != t1263) = false := bne_eq_false_iff_eq.mpr c80
                       clear c80
                       have H' := Aside0.mk H
                       clear H
                       go_wp2_with (first | (go_at_call 29; (with_reducible refine (impl_CountLevelPaths.calls kj69 t1261 0 t1262 24 t1267 t1268 _ A78.out).mono ?_); rintro e w81 ⟨rfl, hb⟩; have n0_ := Aside0.mk (below_step ZB hb); clear HB; have HB := n0_; clear n0_; (try clear hb)))
                       repeat (go_quiet (first | (go_at_call 29; (with_reducible refine (impl_CountLevelPaths.calls kj69 t1261 0 t1262 24 t1267 t1268 _ A78.out).mono ?_); rintro e w81 ⟨rfl, hb⟩; have n0_ := Aside0.mk (below_step ZB hb); clear HB; have HB := n0_; clear n0_; (try clear hb))); try go_wp2_with (first | (go_at_call 29; (with_reducible refine (impl_CountLevelPaths.calls kj69 t1261 0 t1262 24 t1267 t1268 _ A78.out).mono ?_); rintro e w81 ⟨rfl, hb⟩; have n0_ := Aside0.mk (below_step ZB hb); clear HB; have HB := n0_; clear n0_; (try clear hb))))
                       go_meet
                       case rel => exact ⟨_, H', ⟨by have := HJ6.out; have := HJ16.out; have := HK3.out; have := HJ43.out; have := HJ50.out; have := HJ69.out; first | omega | exact Nat.le_refl _⟩, ⟨ZB⟩⟩
                      ·rw [if_neg c80] at H
                       have c80b0 : (t1267 == t1263) = false := beq_eq_false_iff_ne.mpr c80
                       have c80b1 : (t1267 != t1263) = true := bne_iff_ne.mpr c80
                       exact absurd (H.trans (congrArg some hT.out)) (by simp)
                     ·rw [if_neg c79] at H
                      have c79b0 : (t1268 == 0) = false := beq_eq_false_iff_ne.mpr c79
                      have c79b1 : (t1268 != 0) = true := bne_iff_ne.mpr c79
                      exact absurd (H.trans (congrArg some hT.out)) (by simp)
                    ·rw [if_neg c77] at H
                     have c77b0 : (t1264 == 0) = false := beq_eq_false_iff_ne.mpr c77
                     have c77b1 : (t1264 != 0) = true := bne_iff_ne.mpr c77
                     (first | rw [c77b0] | (simp only [i64_w, i32_w]; rw [c77b0]) | skip)
                     have H' := Aside0.mk H
                     clear H
                     go_wp2
                     repeat (go_quiet (fail); try go_wp2)
                     go_meet
                     case rel => exact ⟨_, H', ⟨by have := HJ6.out; have := HJ16.out; have := HK3.out; have := HJ43.out; have := HJ50.out; have := HJ69.out; first | omega | exact Nat.le_refl _⟩, ⟨ZB⟩⟩
                   case rest =>
                    clear HC76
                    try clear c1
                    try clear p1
                    try clear q1
                    try clear hx1
                    try clear c2
                    try clear p2
                    try clear c3
                    try clear c4
                    try clear c5
                    try clear c6
                    try clear p6
                    try clear c7
                    try clear c8
                    try clear c11
                    try clear c11b0
                    try clear c11b1
                    try clear p12
                    try clear q12
                    try clear hx12
                    try clear c14
                    try clear c20
                    try clear c20b0
                    try clear c20b1
                    try clear c21
                    try clear c21b0
                    try clear c21b1
                    try clear c22
                    try clear c22b0
                    try clear c22b1
                    try clear c23
                    try clear c23b0
                    try clear c23b1
                    try clear c26
                    try clear c27
                    try clear c27b0
                    try clear c28
                    try clear c28b0
                    try clear c30
                    try clear c30b0
                    try clear c31
                    try clear c31b0
                    try clear c31b1
                    try clear c32
                    try clear c32b0
                    try clear c32b1
                    try clear c33
                    try clear c33b0
                    try clear c33b1
                    try clear c34
                    try clear c34b0
                    try clear c35
                    try clear c35b0
                    try clear c36
                    try clear c36b0
                    try clear c36b1
                    try clear c49
                    try clear c49b0
                    try clear c49b1
                    try clear c50
                    try clear c52
                    try clear c52b0
                    try clear c52b1
                    try clear c54
                    try clear c54b0
                    try clear c54b1
                    try clear c56
                    try clear c56b0
                    try clear c57
                    try clear c57b0
                    try clear c58
                    try clear c58b0
                    try clear c60
                    try clear c60b0
                    try clear c60b1
                    try clear c61
                    try clear c61b0
                    try clear c61b1
                    try clear p64
                    try clear c74
                    try clear c74b0
                    try clear c74b1
                    try clear c75
                    try clear c77
                    try clear c77b0
                    try clear c77b1
                    try clear c79
                    try clear c79b0
                    try clear c79b1
                    try clear c80
                    try clear c80b0
                    try clear c80b1
                    try clear hx1240_0
                    try clear hx1245_0
                    try clear hx1246_0
                    try clear hx1247_0
                    try clear hx1258_0
                    try clear p1
                    try clear p12
                    try clear p1240
                    try clear p1245
                    try clear p1246
                    try clear p1247
                    try clear p1258
                    try clear p2
                    try clear p6
                    try clear p64
                    try clear q1
                    try clear q12
                    try clear q1240
                    try clear q1245
                    try clear q1246
                    try clear q1247
                    try clear q1258
                    obtain ⟨kq, HA, HJ75, HB⟩ := hcut
                    cases kq with
                    | zero => exact absurd HA.out (by simp [laws_FnPathCounts.j6])
                    | succ kj75 =>
                     have H := HA.out
                     clear HA
                     simp only [laws_FnPathCounts.j6] at H
                     replace H := Option.bind_eq_some_iff.mp H
                     obtain ⟨⟨t1269, t1270, t1273, t1276, t1277⟩, A820, H⟩ := H
                     try dsimp only at H
                     have A82 := Aside0.mk A820
                     clear A820
                     replace H := Option.bind_eq_some_iff.mp H
                     obtain ⟨⟨t1279, t1280⟩, A830, H⟩ := H
                     try dsimp only at H
                     have A83 := Aside0.mk A830
                     clear A830
                     replace H := Option.bind_eq_some_iff.mp H
                     obtain ⟨⟨t1281, t1282⟩, A840, H⟩ := H
                     try dsimp only at H
                     have A84 := Aside0.mk A840
                     clear A840
                     replace H := Option.bind_eq_some_iff.mp H
                     obtain ⟨⟨t1283, t1284, t1285, t1286⟩, A850, H⟩ := H
                     try dsimp only at H
                     have A85 := Aside0.mk A850
                     clear A850
                     replace H := Option.bind_eq_some_iff.mp H
                     obtain ⟨⟨t1287, t1288⟩, A860, H⟩ := H
                     try dsimp only at H
                     have A86 := Aside0.mk A860
                     clear A860
                     replace H := Option.bind_eq_some_iff.mp H
                     obtain ⟨⟨t1289, t1290⟩, A870, H⟩ := H
                     try dsimp only at H
                     have A87 := Aside0.mk A870
                     clear A870
                     replace H := Option.bind_eq_some_iff.mp H
                     obtain ⟨⟨t1291, t1292, t1293, t1294⟩, A880, H⟩ := H
                     try dsimp only at H
                     have A88 := Aside0.mk A880
                     clear A880
                     replace H := Option.bind_eq_some_iff.mp H
                     obtain ⟨⟨t1295, t1296⟩, A890, H⟩ := H
                     try dsimp only at H
                     have A89 := Aside0.mk A890
                     clear A890
                     replace H := Option.bind_eq_some_iff.mp H
                     obtain ⟨⟨t1297, t1298⟩, A900, H⟩ := H
                     try dsimp only at H
                     have A90 := Aside0.mk A900
                     clear A900
                     replace H := Option.bind_eq_some_iff.mp H
                     obtain ⟨⟨t1299, t1300⟩, A910, H⟩ := H
                     try dsimp only at H
                     have A91 := Aside0.mk A910
                     clear A910
                     replace H := Option.bind_eq_some_iff.mp H
                     obtain ⟨⟨t1301, t1302⟩, A920, H⟩ := H
                     try dsimp only at H
                     have A92 := Aside0.mk A920
                     clear A920
                     replace H := Option.bind_eq_some_iff.mp H
                     obtain ⟨⟨t1305, t1306⟩, A930, H⟩ := H
                     try dsimp only at H
                     have A93 := Aside0.mk A930
                     clear A930
                     by_cases c94 : t1280 = t1282
                     ·rw [if_pos c94] at H
                      have c94b0 : (t1280 == t1282) = true := beq_iff_eq.mpr c94
                      have c94b1 : (t1280 != t1282) = false := bne_eq_false_iff_eq.mpr c94
                      clear c94
                      by_cases c95 : t1279 = t1281
                      ·rw [if_pos c95] at H
                       have c95b0 : (t1279 == t1281) = true := beq_iff_eq.mpr c95
                       have c95b1 : (t1279 != t1281) = false := bne_eq_false_iff_eq.mpr c95
                       clear c95
                       by_cases c96 : t1288 = t1290
                       ·rw [if_pos c96] at H
                        have c96b0 : (t1288 == t1290) = true := beq_iff_eq.mpr c96
                        have c96b1 : (t1288 != t1290) = false := bne_eq_false_iff_eq.mpr c96
                        clear c96
                        by_cases c97 : t1287 = t1289
                        ·rw [if_pos c97] at H
                         have c97b0 : (t1287 == t1289) = true := beq_iff_eq.mpr c97
                         have c97b1 : (t1287 != t1289) = false := bne_eq_false_iff_eq.mpr c97
                         clear c97
                         by_cases c98 : t1296 = t1298
                         ·rw [if_pos c98] at H
                          have c98b0 : (t1296 == t1298) = true := beq_iff_eq.mpr c98
                          have c98b1 : (t1296 != t1298) = false := bne_eq_false_iff_eq.mpr c98
                          clear c98
                          by_cases c99 : t1295 = t1297
                          ·rw [if_pos c99] at H
                           have c99b0 : (t1295 == t1297) = true := beq_iff_eq.mpr c99
                           have c99b1 : (t1295 != t1297) = false := bne_eq_false_iff_eq.mpr c99
                           clear c99
                           by_cases c100 : t1302 = t1306
                           ·rw [if_pos c100] at H
                            have c100b0 : (t1302 == t1306) = true := beq_iff_eq.mpr c100
                            have c100b1 : (t1302 != t1306) = false := bne_eq_false_iff_eq.mpr c100
                            clear c100
                            replace H := Option.bind_eq_some_iff.mp H
                            obtain ⟨t1309, A1010, H⟩ := H
                            try dsimp only at H
                            have A101 := Aside0.mk A1010
                            clear A1010
                            obtain rfl := Option.some.inj H
                            go_wp2_with (first | (go_at_call 37; (with_reducible refine (spec_DrawWeightOfPath.calls kj75 _ _ l0 t1269 t1270 t1273 t1276 t1277 _ ?side1 ?side2 A82.out).mono ?_); (case side1 => exact ZC HR0); (case side2 => exact HC0.out); rintro e w102 ⟨v1271, v1274, rfl, ho0, ho1, hb⟩; have n0_ := Aside0.mk (Kd.R_lower ho0 (below_size ZB)); have n1_ := Aside0.mk (Kd.R_lower ho1 (below_size ZB)); have n2_ := Aside0.mk (below_step ZB hb); clear HB; have HO1272 := n0_; have HO1275 := n1_; have HB := n2_; clear n0_ n1_ n2_; (try clear hb); (try clear ho0); (try clear ho1)) | ((with_reducible refine gate_dst (N := 37) rfl ?_); (try (refine gate_guard (by rfl) ?_; dsimp only)); refine box_event ?hg (N := 37) ?hd (cs := #[.int .i64 0, .slice none 0 0, .slice none 0 0]) (t := 26) ?hr ?_; (case hd => rfl); (case hg => rfl); (case hr => exact ZqT); intro gb1278 hg w103 hbox hb; have n0_ := Aside0.mk (Kd.R_below (ZR HO1272) hb); have n1_ := Aside0.mk (Kd.R_below (ZR HO1275) hb); have n2_ := Aside0.mk (below_step ZB hb); have n3_ := Aside0.mk (hbox); have n4_ := Aside0.mk ((ZG hg : w.heap.size ≤ gb1278)); have n5_ := Aside0.mk ((ZG hg : w.heap.size ≤ gb1278)); clear HO1272 HO1275 HB; have HO1272 := n0_; have HO1275 := n1_; have HB := n2_; have BK1278 := n3_; have GW1278 := n4_; have GE1278 := n5_; clear n0_ n1_ n2_ n3_ n4_ n5_; clear hb hbox hg; obtain ⟨hcz104_0, hcz104_1, hcz104_2, hfz104_0, hfz104_1, hfz104_2⟩ := ZD3 BK1278; obtain ⟨Ao105, co105, eo105⟩ := Kd.R_slice HO1272.out; subst eo105; obtain ⟨Ao106, co106, eo106⟩ := Kd.R_slice HO1275.out; subst eo106) | (go_at_call 38; (with_reducible refine (impl_WeightOfPath.calls kj75 t1269 _ _ t1270 _ _ t1273 t1276 t1277 t1279 t1280 _ ?side1 ?side2 ?side3 ?side4 A83.out).mono ?_); (case side1 => refine (Kd.R_reads' (e := 2) (base := w.heap.size) (ok := fun k_ => some k_ ≠ (.slice Ao106 t1273.length co106 : Value).ownBlock) (n := t1270.length) (c := co105) ?_).2.2; exact (ZQ (ZF3 HO1272 BK1278 (.int .i64 t1269) (.slice Ao105 t1270.length co105) (.slice Ao106 t1273.length co106)))); (case side2 => exact (Kd.R_reads' HO1272.out).2.1); (case side3 => refine (Kd.R_reads' (e := 2) (base := w.heap.size) (ok := fun k_ => some k_ ≠ (.slice Ao105 t1270.length co105 : Value).ownBlock) (n := t1273.length) (c := co106) ?_).2.2; exact (ZQ (ZF3 HO1275 BK1278 (.int .i64 t1269) (.slice Ao105 t1270.length co105) (.slice Ao106 t1273.length co106)))); (case side4 => exact (Kd.R_reads' HO1275.out).2.1); rintro e w107 ⟨rfl, hb⟩; have n0_ := Aside0.mk (Kd.R_below (ZQ (ZF3 HO1272 BK1278 (.int .i64 t1269) (.slice Ao105 t1270.length co105) (.slice Ao106 t1273.length co106))) hb); have n1_ := Aside0.mk (Kd.R_below (ZQ (ZF3 HO1275 BK1278 (.int .i64 t1269) (.slice Ao105 t1270.length co105) (.slice Ao106 t1273.length co106))) hb); have n2_ := Aside0.mk (blk_below (g := gb1278) (o := .cells #[.int .i64 t1269, .slice Ao105 t1270.length co105, .slice Ao106 t1273.length co106] 26 (0, 0)) (by refine ZS ?_; refine blk_put (cs := #[.int .i64 t1269, .slice Ao105 t1270.length co105, .slice none 0 0]) ?_ 2 _ rfl; refine ZS ?_; refine blk_put (cs := #[.int .i64 t1269, .slice none 0 0, .slice none 0 0]) ?_ 1 _ rfl; refine ZS ?_; refine blk_put (cs := #[.int .i64 0, .slice none 0 0, .slice none 0 0]) ?_ 0 _ rfl; refine ZS ?_; exact BK1278.out) hb); have n3_ := Aside0.mk (below_step ZB hb); clear HO1272 HO1275 BK1278 HB; have HO1272 := n0_; have HO1275 := n1_; have BK1278 := n2_; have HB := n3_; clear n0_ n1_ n2_ n3_; (try clear hb); obtain ⟨hcz108_0, hcz108_1, hcz108_2, hfz108_0, hfz108_1, hfz108_2⟩ := ZD3 BK1278) | (go_at_call 39; (with_reducible refine (spec_WeightOfPath.calls kj75 t1269 _ _ t1270 _ _ t1273 t1276 t1277 t1281 t1282 _ ?side1 ?side2 ?side3 ?side4 A84.out).mono ?_); (case side1 => exact ZqC ((Kd.R_reads' HO1272.out).2.2)); (case side2 => exact (Kd.R_reads' HO1272.out).2.1); (case side3 => exact ZqC ((Kd.R_reads' HO1275.out).2.2)); (case side4 => exact (Kd.R_reads' HO1275.out).2.1); rintro e w109 ⟨rfl, hb⟩; have n0_ := Aside0.mk (Kd.R_below (ZR HO1272) hb); have n1_ := Aside0.mk (Kd.R_below (ZR HO1275) hb); have n2_ := ZL BK1278 hb; have n3_ := Aside0.mk (below_step ZB hb); clear HO1272 HO1275 BK1278 HB; have HO1272 := n0_; have HO1275 := n1_; have BK1278 := n2_; have HB := n3_; clear n0_ n1_ n2_ n3_; (try clear hb)) | (go_at_call 40; (with_reducible refine (spec_DrawCountPaths.calls kj75 _ _ l0 t1283 t1284 t1285 t1286 _ ?side1 ?side2 A85.out).mono ?_); (case side1 => exact ZC HR0); (case side2 => exact HC0.out); rintro e w110 ⟨rfl, hb⟩; have n0_ := Aside0.mk (Kd.R_below (ZR HO1272) hb); have n1_ := Aside0.mk (Kd.R_below (ZR HO1275) hb); have n2_ := ZL BK1278 hb; have n3_ := Aside0.mk (below_step ZB hb); clear HO1272 HO1275 BK1278 HB; have HO1272 := n0_; have HO1275 := n1_; have BK1278 := n2_; have HB := n3_; clear n0_ n1_ n2_ n3_; (try clear hb)) | (go_at_call 28; (with_reducible refine (impl_CountPaths.calls kj75 t1283 t1284 t1285 t1286 t1287 t1288 _ A86.out).mono ?_); rintro e w111 ⟨rfl, hb⟩; have n0_ := Aside0.mk (Kd.R_below (ZR HO1272) hb); have n1_ := Aside0.mk (Kd.R_below (ZR HO1275) hb); have n2_ := ZL BK1278 hb; have n3_ := Aside0.mk (below_step ZB hb); clear HO1272 HO1275 BK1278 HB; have HO1272 := n0_; have HO1275 := n1_; have BK1278 := n2_; have HB := n3_; clear n0_ n1_ n2_ n3_; (try clear hb)) | (go_at_call 41; (with_reducible refine (spec_CountPaths.calls kj75 t1283 t1284 t1285 t1286 t1289 t1290 _ A87.out).mono ?_); rintro e w112 ⟨rfl, hb⟩; have n0_ := Aside0.mk (Kd.R_below (ZR HO1272) hb); have n1_ := Aside0.mk (Kd.R_below (ZR HO1275) hb); have n2_ := ZL BK1278 hb; have n3_ := Aside0.mk (below_step ZB hb); clear HO1272 HO1275 BK1278 HB; have HO1272 := n0_; have HO1275 := n1_; have BK1278 := n2_; have HB := n3_; clear n0_ n1_ n2_ n3_; (try clear hb)) | (go_at_call 42; (with_reducible refine (spec_DrawCountLevelPaths.calls kj75 _ _ l0 t1291 t1292 t1293 t1294 _ ?side1 ?side2 A88.out).mono ?_); (case side1 => exact ZC HR0); (case side2 => exact HC0.out); rintro e w113 ⟨rfl, hb⟩; have n0_ := Aside0.mk (Kd.R_below (ZR HO1272) hb); have n1_ := Aside0.mk (Kd.R_below (ZR HO1275) hb); have n2_ := ZL BK1278 hb; have n3_ := Aside0.mk (below_step ZB hb); clear HO1272 HO1275 BK1278 HB; have HO1272 := n0_; have HO1275 := n1_; have BK1278 := n2_; have HB := n3_; clear n0_ n1_ n2_ n3_; (try clear hb)) | (go_at_call 29; (with_reducible refine (impl_CountLevelPaths.calls kj75 t1291 t1292 t1293 t1294 t1295 t1296 _ A89.out).mono ?_); rintro e w114 ⟨rfl, hb⟩; have n0_ := Aside0.mk (Kd.R_below (ZR HO1272) hb); have n1_ := Aside0.mk (Kd.R_below (ZR HO1275) hb); have n2_ := ZL BK1278 hb; have n3_ := Aside0.mk (below_step ZB hb); clear HO1272 HO1275 BK1278 HB; have HO1272 := n0_; have HO1275 := n1_; have BK1278 := n2_; have HB := n3_; clear n0_ n1_ n2_ n3_; (try clear hb)) | (go_at_call 43; (with_reducible refine (spec_CountLevelPaths.calls kj75 t1291 t1292 t1293 t1294 t1297 t1298 _ A90.out).mono ?_); rintro e w115 ⟨rfl, hb⟩; have n0_ := Aside0.mk (Kd.R_below (ZR HO1272) hb); have n1_ := Aside0.mk (Kd.R_below (ZR HO1275) hb); have n2_ := ZL BK1278 hb; have n3_ := Aside0.mk (below_step ZB hb); clear HO1272 HO1275 BK1278 HB; have HO1272 := n0_; have HO1275 := n1_; have BK1278 := n2_; have HB := n3_; clear n0_ n1_ n2_ n3_; (try clear hb)) | (go_at_call 44; (with_reducible refine (spec_DrawHeightsOf.calls kj75 _ _ l0 t1299 t1300 _ ?side1 ?side2 A91.out).mono ?_); (case side1 => exact ZC HR0); (case side2 => exact HC0.out); rintro e w116 ⟨rfl, hb⟩; have n0_ := Aside0.mk (Kd.R_below (ZR HO1272) hb); have n1_ := Aside0.mk (Kd.R_below (ZR HO1275) hb); have n2_ := ZL BK1278 hb; have n3_ := Aside0.mk (below_step ZB hb); clear HO1272 HO1275 BK1278 HB; have HO1272 := n0_; have HO1275 := n1_; have BK1278 := n2_; have HB := n3_; clear n0_ n1_ n2_ n3_; (try clear hb)) | (go_at_call 30; (with_reducible refine (impl_HeightsOf.calls kj75 t1299 t1300 t1301 t1302 _ A92.out).mono ?_); rintro e w117 ⟨v1303, rfl, ho0, hb⟩; have n0_ := Aside0.mk (Kd.R_elder' (ZR HO1272) (Kd.R_base ho0) hb); have n1_ := Aside0.mk (Kd.R_elder' (ZR HO1275) (Kd.R_base ho0) hb); have n2_ := Aside0.mk (Kd.R_lower (Kd.R_new' (Kd.R_new' ho0 (Kd.R_lt (ZR HO1272))) (Kd.R_lt (ZR HO1275))) (below_size ZB)); have n3_ := ZL BK1278 hb; have n4_ := Aside0.mk (below_step ZB hb); clear HO1272 HO1275 BK1278 HB; have HO1272 := n0_; have HO1275 := n1_; have HO1304 := n2_; have BK1278 := n3_; have HB := n4_; clear n0_ n1_ n2_ n3_ n4_; (try clear hb); (try clear ho0)) | (go_at_call 45; (with_reducible refine (spec_HeightsOf.calls kj75 t1299 t1300 t1305 t1306 _ A93.out).mono ?_); rintro e w118 ⟨v1307, rfl, ho0, hb⟩; have n0_ := Aside0.mk (Kd.R_elder' (ZR HO1272) (Kd.R_base ho0) hb); have n1_ := Aside0.mk (Kd.R_elder' (ZR HO1275) (Kd.R_base ho0) hb); have n2_ := Aside0.mk (Kd.R_elder' (ZR HO1304) (Kd.R_base ho0) hb); have n3_ := Aside0.mk (Kd.R_lower (Kd.R_new' (Kd.R_new' (Kd.R_new' ho0 (Kd.R_lt (ZR HO1272))) (Kd.R_lt (ZR HO1275))) (Kd.R_lt (ZR HO1304))) (below_size ZB)); have n4_ := ZL BK1278 hb; have n5_ := Aside0.mk (below_step ZB hb); clear HO1272 HO1275 HO1304 BK1278 HB; have HO1272 := n0_; have HO1275 := n1_; have HO1304 := n2_; have HO1308 := n3_; have BK1278 := n4_; have HB := n5_; clear n0_ n1_ n2_ n3_ n4_ n5_; (try clear hb); (try clear ho0); obtain ⟨Ao119, co119, eo119⟩ := Kd.R_slice HO1304.out; subst eo119; obtain ⟨Ao120, co120, eo120⟩ := Kd.R_slice HO1308.out; subst eo120) | (go_at_call 46; (with_reducible refine (laws_likeInts.calls kj75 _ _ t1301 _ _ t1305 t1309 _ ?side1 ?side2 ?side3 ?side4 A101.out).mono ?_); (case side1 => exact ZqC ((Kd.R_reads' HO1304.out).2.2)); (case side2 => exact (Kd.R_reads' HO1304.out).2.1); (case side3 => exact ZqC ((Kd.R_reads' HO1308.out).2.2)); (case side4 => exact (Kd.R_reads' HO1308.out).2.1); rintro e w' ⟨rfl, ⟨nd, rfl⟩⟩; (try first | exact ⟨rfl, _, World.drewN_drewN _ _ _⟩ | exact ⟨rfl, _, Eq.trans (World.drewN_drewN _ _ _) (congrArg (World.drewN _) (Nat.add_assoc _ _ _))⟩)))
                            repeat (go_quiet (first | (go_at_call 37; (with_reducible refine (spec_DrawWeightOfPath.calls kj75 _ _ l0 t1269 t1270 t1273 t1276 t1277 _ ?side1 ?side2 A82.out).mono ?_); (case side1 => exact ZC HR0); (case side2 => exact HC0.out); rintro e w102 ⟨v1271, v1274, rfl, ho0, ho1, hb⟩; have n0_ := Aside0.mk (Kd.R_lower ho0 (below_size ZB)); have n1_ := Aside0.mk (Kd.R_lower ho1 (below_size ZB)); have n2_ := Aside0.mk (below_step ZB hb); clear HB; have HO1272 := n0_; have HO1275 := n1_; have HB := n2_; clear n0_ n1_ n2_; (try clear hb); (try clear ho0); (try clear ho1)) | ((with_reducible refine gate_dst (N := 37) rfl ?_); (try (refine gate_guard (by rfl) ?_; dsimp only)); refine box_event ?hg (N := 37) ?hd (cs := #[.int .i64 0, .slice none 0 0, .slice none 0 0]) (t := 26) ?hr ?_; (case hd => rfl); (case hg => rfl); (case hr => exact ZqT); intro gb1278 hg w103 hbox hb; have n0_ := Aside0.mk (Kd.R_below (ZR HO1272) hb); have n1_ := Aside0.mk (Kd.R_below (ZR HO1275) hb); have n2_ := Aside0.mk (below_step ZB hb); have n3_ := Aside0.mk (hbox); have n4_ := Aside0.mk ((ZG hg : w.heap.size ≤ gb1278)); have n5_ := Aside0.mk ((ZG hg : w.heap.size ≤ gb1278)); clear HO1272 HO1275 HB; have HO1272 := n0_; have HO1275 := n1_; have HB := n2_; have BK1278 := n3_; have GW1278 := n4_; have GE1278 := n5_; clear n0_ n1_ n2_ n3_ n4_ n5_; clear hb hbox hg; obtain ⟨hcz104_0, hcz104_1, hcz104_2, hfz104_0, hfz104_1, hfz104_2⟩ := ZD3 BK1278; obtain ⟨Ao105, co105, eo105⟩ := Kd.R_slice HO1272.out; subst eo105; obtain ⟨Ao106, co106, eo106⟩ := Kd.R_slice HO1275.out; subst eo106) | (go_at_call 38; (with_reducible refine (impl_WeightOfPath.calls kj75 t1269 _ _ t1270 _ _ t1273 t1276 t1277 t1279 t1280 _ ?side1 ?side2 ?side3 ?side4 A83.out).mono ?_); (case side1 => refine (Kd.R_reads' (e := 2) (base := w.heap.size) (ok := fun k_ => some k_ ≠ (.slice Ao106 t1273.length co106 : Value).ownBlock) (n := t1270.length) (c := co105) ?_).2.2; exact (ZQ (ZF3 HO1272 BK1278 (.int .i64 t1269) (.slice Ao105 t1270.length co105) (.slice Ao106 t1273.length co106)))); (case side2 => exact (Kd.R_reads' HO1272.out).2.1); (case side3 => refine (Kd.R_reads' (e := 2) (base := w.heap.size) (ok := fun k_ => some k_ ≠ (.slice Ao105 t1270.length co105 : Value).ownBlock) (n := t1273.length) (c := co106) ?_).2.2; exact (ZQ (ZF3 HO1275 BK1278 (.int .i64 t1269) (.slice Ao105 t1270.length co105) (.slice Ao106 t1273.length co106)))); (case side4 => exact (Kd.R_reads' HO1275.out).2.1); rintro e w107 ⟨rfl, hb⟩; have n0_ := Aside0.mk (Kd.R_below (ZQ (ZF3 HO1272 BK1278 (.int .i64 t1269) (.slice Ao105 t1270.length co105) (.slice Ao106 t1273.length co106))) hb); have n1_ := Aside0.mk (Kd.R_below (ZQ (ZF3 HO1275 BK1278 (.int .i64 t1269) (.slice Ao105 t1270.length co105) (.slice Ao106 t1273.length co106))) hb); have n2_ := Aside0.mk (blk_below (g := gb1278) (o := .cells #[.int .i64 t1269, .slice Ao105 t1270.length co105, .slice Ao106 t1273.length co106] 26 (0, 0)) (by refine ZS ?_; refine blk_put (cs := #[.int .i64 t1269, .slice Ao105 t1270.length co105, .slice none 0 0]) ?_ 2 _ rfl; refine ZS ?_; refine blk_put (cs := #[.int .i64 t1269, .slice none 0 0, .slice none 0 0]) ?_ 1 _ rfl; refine ZS ?_; refine blk_put (cs := #[.int .i64 0, .slice none 0 0, .slice none 0 0]) ?_ 0 _ rfl; refine ZS ?_; exact BK1278.out) hb); have n3_ := Aside0.mk (below_step ZB hb); clear HO1272 HO1275 BK1278 HB; have HO1272 := n0_; have HO1275 := n1_; have BK1278 := n2_; have HB := n3_; clear n0_ n1_ n2_ n3_; (try clear hb); obtain ⟨hcz108_0, hcz108_1, hcz108_2, hfz108_0, hfz108_1, hfz108_2⟩ := ZD3 BK1278) | (go_at_call 39; (with_reducible refine (spec_WeightOfPath.calls kj75 t1269 _ _ t1270 _ _ t1273 t1276 t1277 t1281 t1282 _ ?side1 ?side2 ?side3 ?side4 A84.out).mono ?_); (case side1 => exact ZqC ((Kd.R_reads' HO1272.out).2.2)); (case side2 => exact (Kd.R_reads' HO1272.out).2.1); (case side3 => exact ZqC ((Kd.R_reads' HO1275.out).2.2)); (case side4 => exact (Kd.R_reads' HO1275.out).2.1); rintro e w109 ⟨rfl, hb⟩; have n0_ := Aside0.mk (Kd.R_below (ZR HO1272) hb); have n1_ := Aside0.mk (Kd.R_below (ZR HO1275) hb); have n2_ := ZL BK1278 hb; have n3_ := Aside0.mk (below_step ZB hb); clear HO1272 HO1275 BK1278 HB; have HO1272 := n0_; have HO1275 := n1_; have BK1278 := n2_; have HB := n3_; clear n0_ n1_ n2_ n3_; (try clear hb)) | (go_at_call 40; (with_reducible refine (spec_DrawCountPaths.calls kj75 _ _ l0 t1283 t1284 t1285 t1286 _ ?side1 ?side2 A85.out).mono ?_); (case side1 => exact ZC HR0); (case side2 => exact HC0.out); rintro e w110 ⟨rfl, hb⟩; have n0_ := Aside0.mk (Kd.R_below (ZR HO1272) hb); have n1_ := Aside0.mk (Kd.R_below (ZR HO1275) hb); have n2_ := ZL BK1278 hb; have n3_ := Aside0.mk (below_step ZB hb); clear HO1272 HO1275 BK1278 HB; have HO1272 := n0_; have HO1275 := n1_; have BK1278 := n2_; have HB := n3_; clear n0_ n1_ n2_ n3_; (try clear hb)) | (go_at_call 28; (with_reducible refine (impl_CountPaths.calls kj75 t1283 t1284 t1285 t1286 t1287 t1288 _ A86.out).mono ?_); rintro e w111 ⟨rfl, hb⟩; have n0_ := Aside0.mk (Kd.R_below (ZR HO1272) hb); have n1_ := Aside0.mk (Kd.R_below (ZR HO1275) hb); have n2_ := ZL BK1278 hb; have n3_ := Aside0.mk (below_step ZB hb); clear HO1272 HO1275 BK1278 HB; have HO1272 := n0_; have HO1275 := n1_; have BK1278 := n2_; have HB := n3_; clear n0_ n1_ n2_ n3_; (try clear hb)) | (go_at_call 41; (with_reducible refine (spec_CountPaths.calls kj75 t1283 t1284 t1285 t1286 t1289 t1290 _ A87.out).mono ?_); rintro e w112 ⟨rfl, hb⟩; have n0_ := Aside0.mk (Kd.R_below (ZR HO1272) hb); have n1_ := Aside0.mk (Kd.R_below (ZR HO1275) hb); have n2_ := ZL BK1278 hb; have n3_ := Aside0.mk (below_step ZB hb); clear HO1272 HO1275 BK1278 HB; have HO1272 := n0_; have HO1275 := n1_; have BK1278 := n2_; have HB := n3_; clear n0_ n1_ n2_ n3_; (try clear hb)) | (go_at_call 42; (with_reducible refine (spec_DrawCountLevelPaths.calls kj75 _ _ l0 t1291 t1292 t1293 t1294 _ ?side1 ?side2 A88.out).mono ?_); (case side1 => exact ZC HR0); (case side2 => exact HC0.out); rintro e w113 ⟨rfl, hb⟩; have n0_ := Aside0.mk (Kd.R_below (ZR HO1272) hb); have n1_ := Aside0.mk (Kd.R_below (ZR HO1275) hb); have n2_ := ZL BK1278 hb; have n3_ := Aside0.mk (below_step ZB hb); clear HO1272 HO1275 BK1278 HB; have HO1272 := n0_; have HO1275 := n1_; have BK1278 := n2_; have HB := n3_; clear n0_ n1_ n2_ n3_; (try clear hb)) | (go_at_call 29; (with_reducible refine (impl_CountLevelPaths.calls kj75 t1291 t1292 t1293 t1294 t1295 t1296 _ A89.out).mono ?_); rintro e w114 ⟨rfl, hb⟩; have n0_ := Aside0.mk (Kd.R_below (ZR HO1272) hb); have n1_ := Aside0.mk (Kd.R_below (ZR HO1275) hb); have n2_ := ZL BK1278 hb; have n3_ := Aside0.mk (below_step ZB hb); clear HO1272 HO1275 BK1278 HB; have HO1272 := n0_; have HO1275 := n1_; have BK1278 := n2_; have HB := n3_; clear n0_ n1_ n2_ n3_; (try clear hb)) | (go_at_call 43; (with_reducible refine (spec_CountLevelPaths.calls kj75 t1291 t1292 t1293 t1294 t1297 t1298 _ A90.out).mono ?_); rintro e w115 ⟨rfl, hb⟩; have n0_ := Aside0.mk (Kd.R_below (ZR HO1272) hb); have n1_ := Aside0.mk (Kd.R_below (ZR HO1275) hb); have n2_ := ZL BK1278 hb; have n3_ := Aside0.mk (below_step ZB hb); clear HO1272 HO1275 BK1278 HB; have HO1272 := n0_; have HO1275 := n1_; have BK1278 := n2_; have HB := n3_; clear n0_ n1_ n2_ n3_; (try clear hb)) | (go_at_call 44; (with_reducible refine (spec_DrawHeightsOf.calls kj75 _ _ l0 t1299 t1300 _ ?side1 ?side2 A91.out).mono ?_); (case side1 => exact ZC HR0); (case side2 => exact HC0.out); rintro e w116 ⟨rfl, hb⟩; have n0_ := Aside0.mk (Kd.R_below (ZR HO1272) hb); have n1_ := Aside0.mk (Kd.R_below (ZR HO1275) hb); have n2_ := ZL BK1278 hb; have n3_ := Aside0.mk (below_step ZB hb); clear HO1272 HO1275 BK1278 HB; have HO1272 := n0_; have HO1275 := n1_; have BK1278 := n2_; have HB := n3_; clear n0_ n1_ n2_ n3_; (try clear hb)) | (go_at_call 30; (with_reducible refine (impl_HeightsOf.calls kj75 t1299 t1300 t1301 t1302 _ A92.out).mono ?_); rintro e w117 ⟨v1303, rfl, ho0, hb⟩; have n0_ := Aside0.mk (Kd.R_elder' (ZR HO1272) (Kd.R_base ho0) hb); have n1_ := Aside0.mk (Kd.R_elder' (ZR HO1275) (Kd.R_base ho0) hb); have n2_ := Aside0.mk (Kd.R_lower (Kd.R_new' (Kd.R_new' ho0 (Kd.R_lt (ZR HO1272))) (Kd.R_lt (ZR HO1275))) (below_size ZB)); have n3_ := ZL BK1278 hb; have n4_ := Aside0.mk (below_step ZB hb); clear HO1272 HO1275 BK1278 HB; have HO1272 := n0_; have HO1275 := n1_; have HO1304 := n2_; have BK1278 := n3_; have HB := n4_; clear n0_ n1_ n2_ n3_ n4_; (try clear hb); (try clear ho0)) | (go_at_call 45; (with_reducible refine (spec_HeightsOf.calls kj75 t1299 t1300 t1305 t1306 _ A93.out).mono ?_); rintro e w118 ⟨v1307, rfl, ho0, hb⟩; have n0_ := Aside0.mk (Kd.R_elder' (ZR HO1272) (Kd.R_base ho0) hb); have n1_ := Aside0.mk (Kd.R_elder' (ZR HO1275) (Kd.R_base ho0) hb); have n2_ := Aside0.mk (Kd.R_elder' (ZR HO1304) (Kd.R_base ho0) hb); have n3_ := Aside0.mk (Kd.R_lower (Kd.R_new' (Kd.R_new' (Kd.R_new' ho0 (Kd.R_lt (ZR HO1272))) (Kd.R_lt (ZR HO1275))) (Kd.R_lt (ZR HO1304))) (below_size ZB)); have n4_ := ZL BK1278 hb; have n5_ := Aside0.mk (below_step ZB hb); clear HO1272 HO1275 HO1304 BK1278 HB; have HO1272 := n0_; have HO1275 := n1_; have HO1304 := n2_; have HO1308 := n3_; have BK1278 := n4_; have HB := n5_; clear n0_ n1_ n2_ n3_ n4_ n5_; (try clear hb); (try clear ho0); obtain ⟨Ao119, co119, eo119⟩ := Kd.R_slice HO1304.out; subst eo119; obtain ⟨Ao120, co120, eo120⟩ := Kd.R_slice HO1308.out; subst eo120) | (go_at_call 46; (with_reducible refine (laws_likeInts.calls kj75 _ _ t1301 _ _ t1305 t1309 _ ?side1 ?side2 ?side3 ?side4 A101.out).mono ?_); (case side1 => exact ZqC ((Kd.R_reads' HO1304.out).2.2)); (case side2 => exact (Kd.R_reads' HO1304.out).2.1); (case side3 => exact ZqC ((Kd.R_reads' HO1308.out).2.2)); (case side4 => exact (Kd.R_reads' HO1308.out).2.1); rintro e w' ⟨rfl, ⟨nd, rfl⟩⟩; (try first | exact ⟨rfl, _, World.drewN_drewN _ _ _⟩ | exact ⟨rfl, _, Eq.trans (World.drewN_drewN _ _ _) (congrArg (World.drewN _) (Nat.add_assoc _ _ _))⟩))); try go_wp2_with (first | (go_at_call 37; (with_reducible refine (spec_DrawWeightOfPath.calls kj75 _ _ l0 t1269 t1270 t1273 t1276 t1277 _ ?side1 ?side2 A82.out).mono ?_); (case side1 => exact ZC HR0); (case side2 => exact HC0.out); rintro e w102 ⟨v1271, v1274, rfl, ho0, ho1, hb⟩; have n0_ := Aside0.mk (Kd.R_lower ho0 (below_size ZB)); have n1_ := Aside0.mk (Kd.R_lower ho1 (below_size ZB)); have n2_ := Aside0.mk (below_step ZB hb); clear HB; have HO1272 := n0_; have HO1275 := n1_; have HB := n2_; clear n0_ n1_ n2_; (try clear hb); (try clear ho0); (try clear ho1)) | ((with_reducible refine gate_dst (N := 37) rfl ?_); (try (refine gate_guard (by rfl) ?_; dsimp only)); refine box_event ?hg (N := 37) ?hd (cs := #[.int .i64 0, .slice none 0 0, .slice none 0 0]) (t := 26) ?hr ?_; (case hd => rfl); (case hg => rfl); (case hr => exact ZqT); intro gb1278 hg w103 hbox hb; have n0_ := Aside0.mk (Kd.R_below (ZR HO1272) hb); have n1_ := Aside0.mk (Kd.R_below (ZR HO1275) hb); have n2_ := Aside0.mk (below_step ZB hb); have n3_ := Aside0.mk (hbox); have n4_ := Aside0.mk ((ZG hg : w.heap.size ≤ gb1278)); have n5_ := Aside0.mk ((ZG hg : w.heap.size ≤ gb1278)); clear HO1272 HO1275 HB; have HO1272 := n0_; have HO1275 := n1_; have HB := n2_; have BK1278 := n3_; have GW1278 := n4_; have GE1278 := n5_; clear n0_ n1_ n2_ n3_ n4_ n5_; clear hb hbox hg; obtain ⟨hcz104_0, hcz104_1, hcz104_2, hfz104_0, hfz104_1, hfz104_2⟩ := ZD3 BK1278; obtain ⟨Ao105, co105, eo105⟩ := Kd.R_slice HO1272.out; subst eo105; obtain ⟨Ao106, co106, eo106⟩ := Kd.R_slice HO1275.out; subst eo106) | (go_at_call 38; (with_reducible refine (impl_WeightOfPath.calls kj75 t1269 _ _ t1270 _ _ t1273 t1276 t1277 t1279 t1280 _ ?side1 ?side2 ?side3 ?side4 A83.out).mono ?_); (case side1 => refine (Kd.R_reads' (e := 2) (base := w.heap.size) (ok := fun k_ => some k_ ≠ (.slice Ao106 t1273.length co106 : Value).ownBlock) (n := t1270.length) (c := co105) ?_).2.2; exact (ZQ (ZF3 HO1272 BK1278 (.int .i64 t1269) (.slice Ao105 t1270.length co105) (.slice Ao106 t1273.length co106)))); (case side2 => exact (Kd.R_reads' HO1272.out).2.1); (case side3 => refine (Kd.R_reads' (e := 2) (base := w.heap.size) (ok := fun k_ => some k_ ≠ (.slice Ao105 t1270.length co105 : Value).ownBlock) (n := t1273.length) (c := co106) ?_).2.2; exact (ZQ (ZF3 HO1275 BK1278 (.int .i64 t1269) (.slice Ao105 t1270.length co105) (.slice Ao106 t1273.length co106)))); (case side4 => exact (Kd.R_reads' HO1275.out).2.1); rintro e w107 ⟨rfl, hb⟩; have n0_ := Aside0.mk (Kd.R_below (ZQ (ZF3 HO1272 BK1278 (.int .i64 t1269) (.slice Ao105 t1270.length co105) (.slice Ao106 t1273.length co106))) hb); have n1_ := Aside0.mk (Kd.R_below (ZQ (ZF3 HO1275 BK1278 (.int .i64 t1269) (.slice Ao105 t1270.length co105) (.slice Ao106 t1273.length co106))) hb); have n2_ := Aside0.mk (blk_below (g := gb1278) (o := .cells #[.int .i64 t1269, .slice Ao105 t1270.length co105, .slice Ao106 t1273.length co106] 26 (0, 0)) (by refine ZS ?_; refine blk_put (cs := #[.int .i64 t1269, .slice Ao105 t1270.length co105, .slice none 0 0]) ?_ 2 _ rfl; refine ZS ?_; refine blk_put (cs := #[.int .i64 t1269, .slice none 0 0, .slice none 0 0]) ?_ 1 _ rfl; refine ZS ?_; refine blk_put (cs := #[.int .i64 0, .slice none 0 0, .slice none 0 0]) ?_ 0 _ rfl; refine ZS ?_; exact BK1278.out) hb); have n3_ := Aside0.mk (below_step ZB hb); clear HO1272 HO1275 BK1278 HB; have HO1272 := n0_; have HO1275 := n1_; have BK1278 := n2_; have HB := n3_; clear n0_ n1_ n2_ n3_; (try clear hb); obtain ⟨hcz108_0, hcz108_1, hcz108_2, hfz108_0, hfz108_1, hfz108_2⟩ := ZD3 BK1278) | (go_at_call 39; (with_reducible refine (spec_WeightOfPath.calls kj75 t1269 _ _ t1270 _ _ t1273 t1276 t1277 t1281 t1282 _ ?side1 ?side2 ?side3 ?side4 A84.out).mono ?_); (case side1 => exact ZqC ((Kd.R_reads' HO1272.out).2.2)); (case side2 => exact (Kd.R_reads' HO1272.out).2.1); (case side3 => exact ZqC ((Kd.R_reads' HO1275.out).2.2)); (case side4 => exact (Kd.R_reads' HO1275.out).2.1); rintro e w109 ⟨rfl, hb⟩; have n0_ := Aside0.mk (Kd.R_below (ZR HO1272) hb); have n1_ := Aside0.mk (Kd.R_below (ZR HO1275) hb); have n2_ := ZL BK1278 hb; have n3_ := Aside0.mk (below_step ZB hb); clear HO1272 HO1275 BK1278 HB; have HO1272 := n0_; have HO1275 := n1_; have BK1278 := n2_; have HB := n3_; clear n0_ n1_ n2_ n3_; (try clear hb)) | (go_at_call 40; (with_reducible refine (spec_DrawCountPaths.calls kj75 _ _ l0 t1283 t1284 t1285 t1286 _ ?side1 ?side2 A85.out).mono ?_); (case side1 => exact ZC HR0); (case side2 => exact HC0.out); rintro e w110 ⟨rfl, hb⟩; have n0_ := Aside0.mk (Kd.R_below (ZR HO1272) hb); have n1_ := Aside0.mk (Kd.R_below (ZR HO1275) hb); have n2_ := ZL BK1278 hb; have n3_ := Aside0.mk (below_step ZB hb); clear HO1272 HO1275 BK1278 HB; have HO1272 := n0_; have HO1275 := n1_; have BK1278 := n2_; have HB := n3_; clear n0_ n1_ n2_ n3_; (try clear hb)) | (go_at_call 28; (with_reducible refine (impl_CountPaths.calls kj75 t1283 t1284 t1285 t1286 t1287 t1288 _ A86.out).mono ?_); rintro e w111 ⟨rfl, hb⟩; have n0_ := Aside0.mk (Kd.R_below (ZR HO1272) hb); have n1_ := Aside0.mk (Kd.R_below (ZR HO1275) hb); have n2_ := ZL BK1278 hb; have n3_ := Aside0.mk (below_step ZB hb); clear HO1272 HO1275 BK1278 HB; have HO1272 := n0_; have HO1275 := n1_; have BK1278 := n2_; have HB := n3_; clear n0_ n1_ n2_ n3_; (try clear hb)) | (go_at_call 41; (with_reducible refine (spec_CountPaths.calls kj75 t1283 t1284 t1285 t1286 t1289 t1290 _ A87.out).mono ?_); rintro e w112 ⟨rfl, hb⟩; have n0_ := Aside0.mk (Kd.R_below (ZR HO1272) hb); have n1_ := Aside0.mk (Kd.R_below (ZR HO1275) hb); have n2_ := ZL BK1278 hb; have n3_ := Aside0.mk (below_step ZB hb); clear HO1272 HO1275 BK1278 HB; have HO1272 := n0_; have HO1275 := n1_; have BK1278 := n2_; have HB := n3_; clear n0_ n1_ n2_ n3_; (try clear hb)) | (go_at_call 42; (with_reducible refine (spec_DrawCountLevelPaths.calls kj75 _ _ l0 t1291 t1292 t1293 t1294 _ ?side1 ?side2 A88.out).mono ?_); (case side1 => exact ZC HR0); (case side2 => exact HC0.out); rintro e w113 ⟨rfl, hb⟩; have n0_ := Aside0.mk (Kd.R_below (ZR HO1272) hb); have n1_ := Aside0.mk (Kd.R_below (ZR HO1275) hb); have n2_ := ZL BK1278 hb; have n3_ := Aside0.mk (below_step ZB hb); clear HO1272 HO1275 BK1278 HB; have HO1272 := n0_; have HO1275 := n1_; have BK1278 := n2_; have HB := n3_; clear n0_ n1_ n2_ n3_; (try clear hb)) | (go_at_call 29; (with_reducible refine (impl_CountLevelPaths.calls kj75 t1291 t1292 t1293 t1294 t1295 t1296 _ A89.out).mono ?_); rintro e w114 ⟨rfl, hb⟩; have n0_ := Aside0.mk (Kd.R_below (ZR HO1272) hb); have n1_ := Aside0.mk (Kd.R_below (ZR HO1275) hb); have n2_ := ZL BK1278 hb; have n3_ := Aside0.mk (below_step ZB hb); clear HO1272 HO1275 BK1278 HB; have HO1272 := n0_; have HO1275 := n1_; have BK1278 := n2_; have HB := n3_; clear n0_ n1_ n2_ n3_; (try clear hb)) | (go_at_call 43; (with_reducible refine (spec_CountLevelPaths.calls kj75 t1291 t1292 t1293 t1294 t1297 t1298 _ A90.out).mono ?_); rintro e w115 ⟨rfl, hb⟩; have n0_ := Aside0.mk (Kd.R_below (ZR HO1272) hb); have n1_ := Aside0.mk (Kd.R_below (ZR HO1275) hb); have n2_ := ZL BK1278 hb; have n3_ := Aside0.mk (below_step ZB hb); clear HO1272 HO1275 BK1278 HB; have HO1272 := n0_; have HO1275 := n1_; have BK1278 := n2_; have HB := n3_; clear n0_ n1_ n2_ n3_; (try clear hb)) | (go_at_call 44; (with_reducible refine (spec_DrawHeightsOf.calls kj75 _ _ l0 t1299 t1300 _ ?side1 ?side2 A91.out).mono ?_); (case side1 => exact ZC HR0); (case side2 => exact HC0.out); rintro e w116 ⟨rfl, hb⟩; have n0_ := Aside0.mk (Kd.R_below (ZR HO1272) hb); have n1_ := Aside0.mk (Kd.R_below (ZR HO1275) hb); have n2_ := ZL BK1278 hb; have n3_ := Aside0.mk (below_step ZB hb); clear HO1272 HO1275 BK1278 HB; have HO1272 := n0_; have HO1275 := n1_; have BK1278 := n2_; have HB := n3_; clear n0_ n1_ n2_ n3_; (try clear hb)) | (go_at_call 30; (with_reducible refine (impl_HeightsOf.calls kj75 t1299 t1300 t1301 t1302 _ A92.out).mono ?_); rintro e w117 ⟨v1303, rfl, ho0, hb⟩; have n0_ := Aside0.mk (Kd.R_elder' (ZR HO1272) (Kd.R_base ho0) hb); have n1_ := Aside0.mk (Kd.R_elder' (ZR HO1275) (Kd.R_base ho0) hb); have n2_ := Aside0.mk (Kd.R_lower (Kd.R_new' (Kd.R_new' ho0 (Kd.R_lt (ZR HO1272))) (Kd.R_lt (ZR HO1275))) (below_size ZB)); have n3_ := ZL BK1278 hb; have n4_ := Aside0.mk (below_step ZB hb); clear HO1272 HO1275 BK1278 HB; have HO1272 := n0_; have HO1275 := n1_; have HO1304 := n2_; have BK1278 := n3_; have HB := n4_; clear n0_ n1_ n2_ n3_ n4_; (try clear hb); (try clear ho0)) | (go_at_call 45; (with_reducible refine (spec_HeightsOf.calls kj75 t1299 t1300 t1305 t1306 _ A93.out).mono ?_); rintro e w118 ⟨v1307, rfl, ho0, hb⟩; have n0_ := Aside0.mk (Kd.R_elder' (ZR HO1272) (Kd.R_base ho0) hb); have n1_ := Aside0.mk (Kd.R_elder' (ZR HO1275) (Kd.R_base ho0) hb); have n2_ := Aside0.mk (Kd.R_elder' (ZR HO1304) (Kd.R_base ho0) hb); have n3_ := Aside0.mk (Kd.R_lower (Kd.R_new' (Kd.R_new' (Kd.R_new' ho0 (Kd.R_lt (ZR HO1272))) (Kd.R_lt (ZR HO1275))) (Kd.R_lt (ZR HO1304))) (below_size ZB)); have n4_ := ZL BK1278 hb; have n5_ := Aside0.mk (below_step ZB hb); clear HO1272 HO1275 HO1304 BK1278 HB; have HO1272 := n0_; have HO1275 := n1_; have HO1304 := n2_; have HO1308 := n3_; have BK1278 := n4_; have HB := n5_; clear n0_ n1_ n2_ n3_ n4_ n5_; (try clear hb); (try clear ho0); obtain ⟨Ao119, co119, eo119⟩ := Kd.R_slice HO1304.out; subst eo119; obtain ⟨Ao120, co120, eo120⟩ := Kd.R_slice HO1308.out; subst eo120) | (go_at_call 46; (with_reducible refine (laws_likeInts.calls kj75 _ _ t1301 _ _ t1305 t1309 _ ?side1 ?side2 ?side3 ?side4 A101.out).mono ?_); (case side1 => exact ZqC ((Kd.R_reads' HO1304.out).2.2)); (case side2 => exact (Kd.R_reads' HO1304.out).2.1); (case side3 => exact ZqC ((Kd.R_reads' HO1308.out).2.2)); (case side4 => exact (Kd.R_reads' HO1308.out).2.1); rintro e w' ⟨rfl, ⟨nd, rfl⟩⟩; (try first | exact ⟨rfl, _, World.drewN_drewN _ _ _⟩ | exact ⟨rfl, _, Eq.trans (World.drewN_drewN _ _ _) (congrArg (World.drewN _) (Nat.add_assoc _ _ _))⟩))))
                            go_ret
                            exact ⟨ZqR, ZB⟩
                           ·rw [if_neg c100] at H
                            have c100b0 : (t1302 == t1306) = false := beq_eq_false_iff_ne.mpr c100
                            have c100b1 : (t1302 != t1306) = true := bne_iff_ne.mpr c100
                            exact absurd (H.trans (congrArg some hT.out)) (by simp)
                          ·rw [if_neg c99] at H
                           have c99b0 : (t1295 == t1297) = false := beq_eq_false_iff_ne.mpr c99
                           have c99b1 : (t1295 != t1297) = true := bne_iff_ne.mpr c99
                           exact absurd (H.trans (congrArg some hT.out)) (by simp)
                         ·rw [if_neg c98] at H
                          have c98b0 : (t1296 == t1298) = false := beq_eq_false_iff_ne.mpr c98
                          have c98b1 : (t1296 != t1298) = true := bne_iff_ne.mpr c98
                          exact absurd (H.trans (congrArg some hT.out)) (by simp)
                        ·rw [if_neg c97] at H
                         have c97b0 : (t1287 == t1289) = false := beq_eq_false_iff_ne.mpr c97
                         have c97b1 : (t1287 != t1289) = true := bne_iff_ne.mpr c97
                         exact absurd (H.trans (congrArg some hT.out)) (by simp)
                       ·rw [if_neg c96] at H
                        have c96b0 : (t1288 == t1290) = false := beq_eq_false_iff_ne.mpr c96
                        have c96b1 : (t1288 != t1290) = true := bne_iff_ne.mpr c96
                        exact absurd (H.trans (congrArg some hT.out)) (by simp)
                      ·rw [if_neg c95] at H
                       have c95b0 : (t1279 == t1281) = false := beq_eq_false_iff_ne.mpr c95
                       have c95b1 : (t1279 != t1281) = true := bne_iff_ne.mpr c95
                       exact absurd (H.trans (congrArg some hT.out)) (by simp)
                     ·rw [if_neg c94] at H
                      have c94b0 : (t1280 == t1282) = false := beq_eq_false_iff_ne.mpr c94
                      have c94b1 : (t1280 != t1282) = true := bne_iff_ne.mpr c94
                      exact absurd (H.trans (congrArg some hT.out)) (by simp)

/-- THE ONE PURE STATEMENT of laws_FnPathCounts: yours. -/
def laws_FnPathCounts.Pure : Prop := ∀ (l0 : List Int), l0.length ≤ maxLen → l0.length * 1 ≤ 140737488351232 → (∀ x ∈ l0, (Lit.int .u8 x).wf = true) → ∃ k, laws_FnPathCounts.f k l0 = some true
theorem laws_FnPathCounts.walk (P : laws_FnPathCounts.Pure) (a0 : Option Addr) (len0 cap0 : Nat) (z0 : List Int) (w : World) (w0 : (a0 = none ∧ len0 = 0 ∧ cap0 = 0 ∧ z0 = []) ∨ ∃ x, a0 = some x ∧ len0 ≤ cap0 ∧ cap0 ≤ maxLen ∧ z0.length = cap0 ∧ (∀ i, i < z0.length → w.cell? (x.add i) = some (.int .u8 (z0.getD i 0))) ∧ ∀ n ∈ z0, (Lit.int .u8 n).wf = true) (y0 : len0 * 1 ≤ 140737488351232) :
  Calls Try.prog 4 #[.slice a0 len0 cap0] w fun e w' => e = .returned (.bool true) ∧ Below w.heap.size w w' := by
 obtain ⟨l0, rfl, hr0, hm0, hw0, hc0⟩ := ReadsInt.ofRowC w0
 obtain ⟨k, h⟩ := P l0 hm0 y0 hw0
 refine (laws_FnPathCounts.calls k _ _ l0 true w (Kd.C_of_reads (d := (0 : Int)) (h1 := fun _ => rfl) hr0) hc0 ⟨rfl⟩ h).mono ?_
 rintro e w' ⟨rfl, hd⟩
 exact ⟨rfl, hd⟩

end Go.Proofs.Ytlodpobegdbhaaa.X
