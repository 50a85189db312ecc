/- Contracts of Go functions that FnSteps reaches: the call computes what the plain function says. No condition. -/
import Derived.Test.YtmfidodcpbochaaGreatQFnStepsx0
import Derived.Test.YtmfidodcpbochaaGreatQFnStepsx1
import Derived.Test.YtmfidodcpbochaaGreatQFnStepsx5
import Derived.Test.YtmfidodcpbochaaGreatQFnStepsx7
import Derived.Test.YtmfidodcpbochaaGreatQFnStepsx9
import Derived.Test.YtmfidodcpbochaaGreatQFnStepsx10
import Derived.Test.YtmfidodcpbochaaGreatQFnStepsx13
import Derived.Test.YtmfidodcpbochaaGreatQFnStepsx15
import Derived.Test.YtmfidodcpbochaaGreatQFnStepsx16
import Derived.Test.YtmfidodcpbochaaGreatQFnStepsx17
namespace Go.Proofs.YtmfidodcpbochaaGreat.QFnSteps
open Go.RowKit Go.Proofs.YtmfidodcpbochaaGreatW.PrintWords Go.Proofs.YtmfidodcpbochaaGreatW.PrintLast Go.Proofs.YtmfidodcpbochaaGreatW.PrintMore
attribute [local go_sem] max2_int min2_int max_two min_two max_three min_three max_four min_four   -- for this text's walks alone
set_option linter.unusedVariables false
set_option linter.unusedSimpArgs false

/-! ### laws_FnSteps: function 3 -/
mutual
def laws_FnSteps.j0 : Nat → List Int → List (S32) → List Int → List Int → Bool → Bool → Option (Bool)
 | 0, _, _, _, _, _, _ => none
 | k + 1, x0, x3, x4, x5, x6, x72 => if x72 = true then (some false) else (if x6 = true then (laws_FnSteps.l0 k x0 x3 x4 x5 0) else (laws_FnSteps.j3 k x0))
def laws_FnSteps.j3 : Nat → List Int → Option (Bool)
 | 0, _ => none
 | k + 1, x0 => (spec_DrawRemotestStation.f k x0).bind fun bt729 => ((impl_RemotestStation.f k bt729.1 bt729.2).bind fun bt735 => ((spec_RemotestStation.f k bt729.1 bt729.2).bind fun bt738 => (if bt735.1 = bt738.1 then (if bt735.2.1 = bt738.2.1 then (laws_FnSteps.j4 k x0 (bt735.2.2 != bt738.2.2)) else (laws_FnSteps.j4 k x0 true)) else (laws_FnSteps.j4 k x0 true))))
def laws_FnSteps.j4 : Nat → List Int → Bool → Option (Bool)
 | 0, _, _ => none
 | k + 1, x0, x154 => if x154 = true then (some false) else ((spec_DrawCutStations.f k x0).bind fun t741 => ((impl_CutStations.f k t741).bind fun bt744 => ((spec_CutStations.f k t741).bind fun bt748 => (if (bt744.2 != bt748.2) = true then (laws_FnSteps.j5 k x0 t741 bt744.1 bt744.2 true) else ((laws_vInts.f k bt744.1 bt748.1).bind fun t752 => (laws_FnSteps.j5 k x0 t741 bt744.1 bt744.2 (!t752)))))))
def laws_FnSteps.j5 : Nat → List Int → List (S32) → List Int → Bool → Bool → Option (Bool)
 | 0, _, _, _, _, _ => none
 | k + 1, x0, x21, x22, x23, x175 => if x175 = true then (some false) else (if x23 = true then ((impl_CavesOf.f k x21).bind fun bt753 => (laws_FnSteps.l2 k x0 x21 x22 bt753.1 bt753.2 0)) else ((spec_DrawLongestCave.f k x0).bind fun t783 => ((impl_LongestCave.f k t783).bind fun bt786 => ((spec_LongestCave.f k t783).bind fun bt789 => (if bt786.1 = bt789.1 then (if bt786.2.1 = bt789.2.1 then (some (bt786.2.2 == bt789.2.2)) else (some false)) else (some false))))))
def laws_FnSteps.l2 : Nat → List Int → List (S32) → List Int → List (List Int) → Bool → Int → Option (Bool)
 | 0, _, _, _, _, _, _ => none
 | k + 1, x0, x21, x22, x26, x27, x28 => if x28 < (x22.length : Int) then (laws_FnSteps.l3 k x0 x21 x22 x26 x27 x28 (([] : List (S32))) 0) else ((spec_DrawLongestCave.f k x0).bind fun t757 => ((impl_LongestCave.f k t757).bind fun bt760 => ((spec_LongestCave.f k t757).bind fun bt763 => (if bt760.1 = bt763.1 then (if bt760.2.1 = bt763.2.1 then (some (bt760.2.2 == bt763.2.2)) else (some false)) else (some false)))))
def laws_FnSteps.l3 : Nat → List Int → List (S32) → List Int → List (List Int) → Bool → Int → List (S32) → Int → Option (Bool)
 | 0, _, _, _, _, _, _, _, _ => none
 | k + 1, x0, x21, x22, x26, x27, x28, x29, x30 => if x30 < (x21.length : Int) then (if 0 ≤ x30 then (if 0 ≤ x28 then (if x28 < (x22.length : Int) then (if ((rd_T32 x21 x30).f0) = (rd x22 x28) then (laws_FnSteps.l3 k x0 x21 x22 x26 x27 x28 x29 (wrap64 (x30 + 1))) else (if ((rd_T32 x21 x30).f1) = (rd x22 x28) then (laws_FnSteps.l3 k x0 x21 x22 x26 x27 x28 x29 (wrap64 (x30 + 1))) else (if x29.length < 3518437208883 then (laws_FnSteps.l3 k x0 x21 x22 x26 x27 x28 (x29 ++ [(⟨(rd_T32 x21 x30).f0, (rd_T32 x21 x30).f1, (rd_T32 x21 x30).f2, (rd_T32 x21 x30).f3, (rd_T32 x21 x30).f4⟩ : S32)]) (wrap64 (x30 + 1))) else (none)))) else (none)) else (none)) else (none)) else ((impl_CavesOf.f k x29).bind fun bt777 => (laws_FnSteps.l4 k x0 x21 x22 x26 x27 x28 bt777.1 bt777.2 0 0 0))
def laws_FnSteps.l4 : Nat → List Int → List (S32) → List Int → List (List Int) → Bool → Int → List (List Int) → Bool → Int → Int → Int → Option (Bool)
 | 0, _, _, _, _, _, _, _, _, _, _, _ => none
 | k + 1, x0, x21, x22, x26, x27, x28, x31, x32, x33, x34, x35 => if x35 < (x26.length : Int) then (if 0 ≤ x35 then (laws_FnSteps.l4 k x0 x21 x22 x26 x27 x28 x31 x32 (wrap64 (x33 + ((rd_L4 x26 x35).length : Int))) x34 (wrap64 (x35 + 1))) else (none)) else (laws_FnSteps.l5 k x0 x21 x22 x26 x27 x28 x31 x32 x33 x34 0)
def laws_FnSteps.l5 : Nat → List Int → List (S32) → List Int → List (List Int) → Bool → Int → List (List Int) → Bool → Int → Int → Int → Option (Bool)
 | 0, _, _, _, _, _, _, _, _, _, _, _ => none
 | k + 1, x0, x21, x22, x26, x27, x28, x31, x32, x33, x34, x36 => if x36 < (x31.length : Int) then (if 0 ≤ x36 then (laws_FnSteps.l5 k x0 x21 x22 x26 x27 x28 x31 x32 x33 (wrap64 (x34 + ((rd_L4 x31 x36).length : Int))) (wrap64 (x36 + 1))) else (none)) else (if x27 = true then (if x32 = true then (if (wrap64 ((x31.length : Int) + (wrap64 ((wrap64 (x33 - 1)) - x34)))) ≤ (x26.length : Int) then (some false) else (laws_FnSteps.l2 k x0 x21 x22 x26 x27 (wrap64 (x28 + 1)))) else (some false)) else (some false))
def laws_FnSteps.l0 : Nat → List Int → List (S32) → List Int → List Int → Int → Option (Bool)
 | 0, _, _, _, _, _ => none
 | k + 1, x0, x3, x4, x5, x9 => if x9 < (x3.length : Int) then (if 0 ≤ x9 then (if 0 ≤ ((rd_T32 x3 x9).f0) then (if ((rd_T32 x3 x9).f0) < (x5.length : Int) then (if 0 ≤ ((rd_T32 x3 x9).f1) then (if ((rd_T32 x3 x9).f1) < (x5.length : Int) then (if ((decide ((rd x5 ((rd_T32 x3 x9).f0)) < 0)) != (decide ((rd x5 ((rd_T32 x3 x9).f1)) < 0))) = true then (some false) else ((laws_vFar.f (wrap64 ((rd x5 ((rd_T32 x3 x9).f0)) - (rd x5 ((rd_T32 x3 x9).f1))))).bind fun t726 => (if t726 > 1 then (some false) else (laws_FnSteps.l0 k x0 x3 x4 x5 (wrap64 (x9 + 1)))))) else (none)) else (none)) else (none)) else (none)) else (none)) else (laws_FnSteps.l1 k x0 x4 x5 0)
def laws_FnSteps.l1 : Nat → List Int → List Int → List Int → Int → Option (Bool)
 | 0, _, _, _, _ => none
 | k + 1, x0, x4, x5, x12 => if x12 < (x5.length : Int) then (if 0 ≤ x12 then ((laws_vHas.f k x4 x12).bind fun t728 => (if (((rd x5 x12) == 0) != t728) = true then (some false) else (laws_FnSteps.l1 k x0 x4 x5 (wrap64 (x12 + 1))))) else (none)) else (laws_FnSteps.j3 k x0)
end
def laws_FnSteps.f (k : Nat) (l0 : List Int) : Option (Bool) := (laws_vBig.f l0).bind fun t706 => (if t706 = true then (some true) else ((spec_DrawStepsFrom.f k l0).bind fun bt707 => ((impl_StepsFrom.f k bt707.1 bt707.2).bind fun bt713 => ((spec_StepsFrom.f k bt707.1 bt707.2).bind fun bt717 => (if (bt713.2 != bt717.2) = true then (laws_FnSteps.j0 k l0 bt707.1 bt707.2 bt713.1 bt713.2 true) else ((laws_vInts.f k bt713.1 bt717.1).bind fun t721 => (laws_FnSteps.j0 k l0 bt707.1 bt707.2 bt713.1 bt713.2 (!t721))))))))
theorem laws_FnSteps.mono_l : ∀ k, (∀ y0 y1 y2 y3 y4 y5, LeO (laws_FnSteps.j0 k y0 y1 y2 y3 y4 y5) (laws_FnSteps.j0 (k + 1) y0 y1 y2 y3 y4 y5)) ∧ (∀ y0, LeO (laws_FnSteps.j3 k y0) (laws_FnSteps.j3 (k + 1) y0)) ∧ (∀ y0 y1, LeO (laws_FnSteps.j4 k y0 y1) (laws_FnSteps.j4 (k + 1) y0 y1)) ∧ (∀ y0 y1 y2 y3 y4, LeO (laws_FnSteps.j5 k y0 y1 y2 y3 y4) (laws_FnSteps.j5 (k + 1) y0 y1 y2 y3 y4)) ∧ (∀ y0 y1 y2 y3 y4 y5, LeO (laws_FnSteps.l2 k y0 y1 y2 y3 y4 y5) (laws_FnSteps.l2 (k + 1) y0 y1 y2 y3 y4 y5)) ∧ (∀ y0 y1 y2 y3 y4 y5 y6 y7, LeO (laws_FnSteps.l3 k y0 y1 y2 y3 y4 y5 y6 y7) (laws_FnSteps.l3 (k + 1) y0 y1 y2 y3 y4 y5 y6 y7)) ∧ (∀ y0 y1 y2 y3 y4 y5 y6 y7 y8 y9 y10, LeO (laws_FnSteps.l4 k y0 y1 y2 y3 y4 y5 y6 y7 y8 y9 y10) (laws_FnSteps.l4 (k + 1) y0 y1 y2 y3 y4 y5 y6 y7 y8 y9 y10)) ∧ (∀ y0 y1 y2 y3 y4 y5 y6 y7 y8 y9 y10, LeO (laws_FnSteps.l5 k y0 y1 y2 y3 y4 y5 y6 y7 y8 y9 y10) (laws_FnSteps.l5 (k + 1) y0 y1 y2 y3 y4 y5 y6 y7 y8 y9 y10)) ∧ (∀ y0 y1 y2 y3 y4, LeO (laws_FnSteps.l0 k y0 y1 y2 y3 y4) (laws_FnSteps.l0 (k + 1) y0 y1 y2 y3 y4)) ∧ (∀ y0 y1 y2 y3, LeO (laws_FnSteps.l1 k y0 y1 y2 y3) (laws_FnSteps.l1 (k + 1) y0 y1 y2 y3))
 | 0 => ⟨fun _ _ _ _ _ _ r h => by simp [laws_FnSteps.j0] at h, fun _ r h => by simp [laws_FnSteps.j3] at h, fun _ _ r h => by simp [laws_FnSteps.j4] at h, fun _ _ _ _ _ r h => by simp [laws_FnSteps.j5] at h, fun _ _ _ _ _ _ r h => by simp [laws_FnSteps.l2] at h, fun _ _ _ _ _ _ _ _ r h => by simp [laws_FnSteps.l3] at h, fun _ _ _ _ _ _ _ _ _ _ _ r h => by simp [laws_FnSteps.l4] at h, fun _ _ _ _ _ _ _ _ _ _ _ r h => by simp [laws_FnSteps.l5] at h, fun _ _ _ _ _ r h => by simp [laws_FnSteps.l0] at h, fun _ _ _ _ r h => by simp [laws_FnSteps.l1] at h⟩
 | k + 1 => by
  obtain ⟨ih0, ih1, ih2, ih3, ih4, ih5, ih6, ih7, ih8, ih9⟩ := laws_FnSteps.mono_l k
  refine ⟨?_, ?_, ?_, ?_, ?_, ?_, ?_, ?_, ?_, ?_⟩
  ·intro y0 y1 y2 y3 y4 y5
   unfold laws_FnSteps.j0
   repeat' with_reducible first | apply ih0 | apply ih1 | apply ih2 | apply ih3 | apply ih4 | apply ih5 | apply ih6 | apply ih7 | apply ih8 | apply ih9 | apply impl_CavesOf.mono | apply impl_CutStations.mono | apply impl_LongestCave.mono | apply impl_RemotestStation.mono | apply impl_StepsFrom.mono | apply laws_vHas.mono | apply laws_vInts.mono | apply spec_CutStations.mono | apply spec_DrawCutStations.mono | apply spec_DrawLongestCave.mono | apply spec_DrawRemotestStation.mono | apply spec_DrawStepsFrom.mono | apply spec_LongestCave.mono | apply spec_RemotestStation.mono | apply spec_StepsFrom.mono | exact LeO.refl _ | exact LeO.none _ | refine LeO.ite ?_ ?_ | refine LeO.bind ?_ (fun _ => ?_)
  ·intro y0
   unfold laws_FnSteps.j3
   repeat' with_reducible first | apply ih0 | apply ih1 | apply ih2 | apply ih3 | apply ih4 | apply ih5 | apply ih6 | apply ih7 | apply ih8 | apply ih9 | apply impl_CavesOf.mono | apply impl_CutStations.mono | apply impl_LongestCave.mono | apply impl_RemotestStation.mono | apply impl_StepsFrom.mono | apply laws_vHas.mono | apply laws_vInts.mono | apply spec_CutStations.mono | apply spec_DrawCutStations.mono | apply spec_DrawLongestCave.mono | apply spec_DrawRemotestStation.mono | apply spec_DrawStepsFrom.mono | apply spec_LongestCave.mono | apply spec_RemotestStation.mono | apply spec_StepsFrom.mono | exact LeO.refl _ | exact LeO.none _ | refine LeO.ite ?_ ?_ | refine LeO.bind ?_ (fun _ => ?_)
  ·intro y0 y1
   unfold laws_FnSteps.j4
   repeat' with_reducible first | apply ih0 | apply ih1 | apply ih2 | apply ih3 | apply ih4 | apply ih5 | apply ih6 | apply ih7 | apply ih8 | apply ih9 | apply impl_CavesOf.mono | apply impl_CutStations.mono | apply impl_LongestCave.mono | apply impl_RemotestStation.mono | apply impl_StepsFrom.mono | apply laws_vHas.mono | apply laws_vInts.mono | apply spec_CutStations.mono | apply spec_DrawCutStations.mono | apply spec_DrawLongestCave.mono | apply spec_DrawRemotestStation.mono | apply spec_DrawStepsFrom.mono | apply spec_LongestCave.mono | apply spec_RemotestStation.mono | apply spec_StepsFrom.mono | exact LeO.refl _ | exact LeO.none _ | refine LeO.ite ?_ ?_ | refine LeO.bind ?_ (fun _ => ?_)
  ·intro y0 y1 y2 y3 y4
   unfold laws_FnSteps.j5
   repeat' with_reducible first | apply ih0 | apply ih1 | apply ih2 | apply ih3 | apply ih4 | apply ih5 | apply ih6 | apply ih7 | apply ih8 | apply ih9 | apply impl_CavesOf.mono | apply impl_CutStations.mono | apply impl_LongestCave.mono | apply impl_RemotestStation.mono | apply impl_StepsFrom.mono | apply laws_vHas.mono | apply laws_vInts.mono | apply spec_CutStations.mono | apply spec_DrawCutStations.mono | apply spec_DrawLongestCave.mono | apply spec_DrawRemotestStation.mono | apply spec_DrawStepsFrom.mono | apply spec_LongestCave.mono | apply spec_RemotestStation.mono | apply spec_StepsFrom.mono | exact LeO.refl _ | exact LeO.none _ | refine LeO.ite ?_ ?_ | refine LeO.bind ?_ (fun _ => ?_)
  ·intro y0 y1 y2 y3 y4 y5
   unfold laws_FnSteps.l2
   repeat' with_reducible first | apply ih0 | apply ih1 | apply ih2 | apply ih3 | apply ih4 | apply ih5 | apply ih6 | apply ih7 | apply ih8 | apply ih9 | apply impl_CavesOf.mono | apply impl_CutStations.mono | apply impl_LongestCave.mono | apply impl_RemotestStation.mono | apply impl_StepsFrom.mono | apply laws_vHas.mono | apply laws_vInts.mono | apply spec_CutStations.mono | apply spec_DrawCutStations.mono | apply spec_DrawLongestCave.mono | apply spec_DrawRemotestStation.mono | apply spec_DrawStepsFrom.mono | apply spec_LongestCave.mono | apply spec_RemotestStation.mono | apply spec_StepsFrom.mono | exact LeO.refl _ | exact LeO.none _ | refine LeO.ite ?_ ?_ | refine LeO.bind ?_ (fun _ => ?_)
  ·intro y0 y1 y2 y3 y4 y5 y6 y7
   unfold laws_FnSteps.l3
   repeat' with_reducible first | apply ih0 | apply ih1 | apply ih2 | apply ih3 | apply ih4 | apply ih5 | apply ih6 | apply ih7 | apply ih8 | apply ih9 | apply impl_CavesOf.mono | apply impl_CutStations.mono | apply impl_LongestCave.mono | apply impl_RemotestStation.mono | apply impl_StepsFrom.mono | apply laws_vHas.mono | apply laws_vInts.mono | apply spec_CutStations.mono | apply spec_DrawCutStations.mono | apply spec_DrawLongestCave.mono | apply spec_DrawRemotestStation.mono | apply spec_DrawStepsFrom.mono | apply spec_LongestCave.mono | apply spec_RemotestStation.mono | apply spec_StepsFrom.mono | exact LeO.refl _ | exact LeO.none _ | refine LeO.ite ?_ ?_ | refine LeO.bind ?_ (fun _ => ?_)
  ·intro y0 y1 y2 y3 y4 y5 y6 y7 y8 y9 y10
   unfold laws_FnSteps.l4
   repeat' with_reducible first | apply ih0 | apply ih1 | apply ih2 | apply ih3 | apply ih4 | apply ih5 | apply ih6 | apply ih7 | apply ih8 | apply ih9 | apply impl_CavesOf.mono | apply impl_CutStations.mono | apply impl_LongestCave.mono | apply impl_RemotestStation.mono | apply impl_StepsFrom.mono | apply laws_vHas.mono | apply laws_vInts.mono | apply spec_CutStations.mono | apply spec_DrawCutStations.mono | apply spec_DrawLongestCave.mono | apply spec_DrawRemotestStation.mono | apply spec_DrawStepsFrom.mono | apply spec_LongestCave.mono | apply spec_RemotestStation.mono | apply spec_StepsFrom.mono | exact LeO.refl _ | exact LeO.none _ | refine LeO.ite ?_ ?_ | refine LeO.bind ?_ (fun _ => ?_)
  ·intro y0 y1 y2 y3 y4 y5 y6 y7 y8 y9 y10
   unfold laws_FnSteps.l5
   repeat' with_reducible first | apply ih0 | apply ih1 | apply ih2 | apply ih3 | apply ih4 | apply ih5 | apply ih6 | apply ih7 | apply ih8 | apply ih9 | apply impl_CavesOf.mono | apply impl_CutStations.mono | apply impl_LongestCave.mono | apply impl_RemotestStation.mono | apply impl_StepsFrom.mono | apply laws_vHas.mono | apply laws_vInts.mono | apply spec_CutStations.mono | apply spec_DrawCutStations.mono | apply spec_DrawLongestCave.mono | apply spec_DrawRemotestStation.mono | apply spec_DrawStepsFrom.mono | apply spec_LongestCave.mono | apply spec_RemotestStation.mono | apply spec_StepsFrom.mono | exact LeO.refl _ | exact LeO.none _ | refine LeO.ite ?_ ?_ | refine LeO.bind ?_ (fun _ => ?_)
  ·intro y0 y1 y2 y3 y4
   unfold laws_FnSteps.l0
   repeat' with_reducible first | apply ih0 | apply ih1 | apply ih2 | apply ih3 | apply ih4 | apply ih5 | apply ih6 | apply ih7 | apply ih8 | apply ih9 | apply impl_CavesOf.mono | apply impl_CutStations.mono | apply impl_LongestCave.mono | apply impl_RemotestStation.mono | apply impl_StepsFrom.mono | apply laws_vHas.mono | apply laws_vInts.mono | apply spec_CutStations.mono | apply spec_DrawCutStations.mono | apply spec_DrawLongestCave.mono | apply spec_DrawRemotestStation.mono | apply spec_DrawStepsFrom.mono | apply spec_LongestCave.mono | apply spec_RemotestStation.mono | apply spec_StepsFrom.mono | exact LeO.refl _ | exact LeO.none _ | refine LeO.ite ?_ ?_ | refine LeO.bind ?_ (fun _ => ?_)
  ·intro y0 y1 y2 y3
   unfold laws_FnSteps.l1
   repeat' with_reducible first | apply ih0 | apply ih1 | apply ih2 | apply ih3 | apply ih4 | apply ih5 | apply ih6 | apply ih7 | apply ih8 | apply ih9 | apply impl_CavesOf.mono | apply impl_CutStations.mono | apply impl_LongestCave.mono | apply impl_RemotestStation.mono | apply impl_StepsFrom.mono | apply laws_vHas.mono | apply laws_vInts.mono | apply spec_CutStations.mono | apply spec_DrawCutStations.mono | apply spec_DrawLongestCave.mono | apply spec_DrawRemotestStation.mono | apply spec_DrawStepsFrom.mono | apply spec_LongestCave.mono | apply spec_RemotestStation.mono | apply spec_StepsFrom.mono | exact LeO.refl _ | exact LeO.none _ | refine LeO.ite ?_ ?_ | refine LeO.bind ?_ (fun _ => ?_)
theorem laws_FnSteps.mono : ∀ a0 k, LeO (laws_FnSteps.f k a0) (laws_FnSteps.f (k + 1) a0) := by
 intro a0 k
 obtain ⟨ih0, ih1, ih2, ih3, ih4, ih5, ih6, ih7, ih8, ih9⟩ := laws_FnSteps.mono_l k
 unfold laws_FnSteps.f
 repeat' with_reducible first | apply ih0 | apply ih1 | apply ih2 | apply ih3 | apply ih4 | apply ih5 | apply ih6 | apply ih7 | apply ih8 | apply ih9 | apply impl_CavesOf.mono | apply impl_CutStations.mono | apply impl_LongestCave.mono | apply impl_RemotestStation.mono | apply impl_StepsFrom.mono | apply laws_vHas.mono | apply laws_vInts.mono | apply spec_CutStations.mono | apply spec_DrawCutStations.mono | apply spec_DrawLongestCave.mono | apply spec_DrawRemotestStation.mono | apply spec_DrawStepsFrom.mono | apply spec_LongestCave.mono | apply spec_RemotestStation.mono | apply spec_StepsFrom.mono | exact LeO.refl _ | exact LeO.none _ | refine LeO.ite ?_ ?_ | refine LeO.bind ?_ (fun _ => ?_)
set_option maxHeartbeats 8000000 in
set_option maxRecDepth 100000 in
theorem laws_FnSteps.calls (k : Nat) (A0 : Option Addr) (c0 : Nat) (l0 : List Int) (r : Bool) (w : World) (hr0 : Kd.C (Kd.int .u8) w A0 l0.length l0) (hc0 : l0.length ≤ c0) (h : laws_FnSteps.f k l0 = some r) (hT : r = true) :
 Calls Tryz.prog 3 #[.slice A0 l0.length c0] w fun e w' => e = .returned (.bool r) ∧ Below w.heap.size w w' := by
 have hu32 := Tryz.underlying32
 have HR0 := Aside0.mk hr0
 have HC0 := Aside0.mk hc0
 clear hr0 hc0
 have HB := Aside0.mk (Below.refl w.heap.size w)
 have H := h
 clear h
 unfold laws_FnSteps.f at H
 replace H := bA H
 obtain ⟨t706, A2, H⟩ := H
 rcases Bool.eq_false_or_eq_true t706 with rfl | rfl
 ·replace H := iT rfl H
  obtain rfl := (Option.some.inj H)
  go_enter Tryz.func3, Tryz.ntmps3
  go_wp2_with (first | (go_at_call 4; (with_reducible refine (laws_vBig.calls _ _ l0 true _ ?side1 ?side2 A2.out).mono ?_); (case side1 => exact zC HR0); (case side2 => exact HC0.out); rintro e w' ⟨rfl, ⟨nd, rfl⟩⟩; (try first | exact zQ | exact zQ2)))
  go_ret
  exact ⟨eB, (bW HB)⟩
 ·replace H := iF (by decide) H
  replace H := Option.bind_eq_some_iff.mp H
  obtain ⟨⟨t707, t708⟩, A40, H⟩ := H
  have A4 := Aside0.mk A40
  clear A40
  replace H := Option.bind_eq_some_iff.mp H
  obtain ⟨⟨t713, t714⟩, A50, H⟩ := H
  have A5 := Aside0.mk A50
  clear A50
  replace H := Option.bind_eq_some_iff.mp H
  obtain ⟨⟨t717, t718⟩, A60, H⟩ := H
  have A6 := Aside0.mk A60
  clear A60
  have HC7 := Aside0.mk H
  clear H
  go_enter Tryz.func3, Tryz.ntmps3
  go_upto_region 6 with (first | (go_at_call 4; (with_reducible refine (laws_vBig.calls _ _ l0 false _ ?side1 ?side2 A2.out).mono ?_); (case side1 => exact zC HR0); (case side2 => exact HC0.out); rintro e w' ⟨rfl, ⟨nd, rfl⟩⟩; (try first | exact zQ | exact zQ2)) | (go_at_call 5; (with_reducible refine (spec_DrawStepsFrom.calls k _ _ l0 t707 t708 _ ?side1 ?side2 A4.out).mono ?_); (case side1 => exact zC HR0); (case side2 => exact HC0.out); rintro e w8 ⟨v709, v711, rfl, ho0, ho1, hb⟩; have HO710 := Aside0.mk (Kd.R_lower ho0 (below_size (bW HB))); have HO712 := Aside0.mk (Kd.R_lower ho1 (below_size (bW HB))); replace HB := uB HB hb; (try clear hb); (try clear hk); (try clear ho0); (try clear ho1); obtain ⟨Ao9, co9, eo9⟩ := Kd.R_slice HO710.out; subst eo9; obtain ⟨Ao10, co10, eo10⟩ := Kd.R_slice HO712.out; subst eo10) | (go_at_call 6; (with_reducible refine (impl_StepsFrom.calls k _ _ t707 _ _ t708 t713 t714 _ ?side1 ?side2 ?side3 ?side4 A5.out).mono ?_); (case side1 => exact zCR HO710); (case side2 => exact (Kd.R_reads' HO710.out).2.1); (case side3 => exact zCR HO712); (case side4 => exact (Kd.R_reads' HO712.out).2.1); rintro e w11 ⟨v715, rfl, ho0, hb⟩; have HO716 := Aside0.mk (Kd.R_lower (Kd.R_new' ho0 (Kd.R_lt (upR HO712.out))) (below_size (bW HB))); replace HO710 := uR HO710 hb; replace HO712 := Aside0.mk (Kd.R_elder' (upR HO712.out) (Kd.R_base ho0) hb); replace HB := uB HB hb; (try clear hb); (try clear hk); (try clear ho0)) | (go_at_call 7; (with_reducible refine (spec_StepsFrom.calls k _ _ t707 _ _ t708 t717 t718 _ ?side1 ?side2 ?side3 ?side4 A6.out).mono ?_); (case side1 => exact zCR HO710); (case side2 => exact (Kd.R_reads' HO710.out).2.1); (case side3 => exact zCR HO712); (case side4 => exact (Kd.R_reads' HO712.out).2.1); rintro e w12 ⟨v719, rfl, ho0, hb⟩; have HO720 := Aside0.mk (Kd.R_lower (Kd.R_new' (Kd.R_new' ho0 (Kd.R_lt (upR HO712.out))) (Kd.R_lt (upR HO716.out))) (below_size (bW HB))); replace HO710 := uR HO710 hb; replace HO712 := Aside0.mk (Kd.R_elder' (upR HO712.out) (Kd.R_base ho0) hb); replace HO716 := Aside0.mk (Kd.R_elder' (upR HO716.out) (Kd.R_base ho0) hb); replace HB := uB HB hb; (try clear hb); (try clear hk); (try clear ho0)))
  (try simp only [Act.put, List.setIfInBounds_toArray, List.set_cons_zero, List.set_cons_succ])
  go_cut [72] (fun v72 wc => ∃ (kq : Nat) (x72_6 : Bool), v72 = .bool x72_6 ∧ Aside0 (laws_FnSteps.j0 kq l0 t707 t708 t713 t714 x72_6 = some r) ∧ Aside0 (kq ≤ k) ∧ Aside0 (Kd.R k32 32 wc w.heap.size (fun _ => True) (.slice Ao9 t707.length co9) t707) ∧ Aside0 (Kd.R (Kd.int .i64) 3 wc w.heap.size (fun k_ => some k_ ≠ (v715 : Value).ownBlock) (.slice Ao10 t708.length co10) t708) ∧ Aside0 (Kd.R (Kd.int .i64) 3 wc w.heap.size (fun k_ => some k_ ≠ ((.slice Ao10 t708.length co10) : Value).ownBlock) v715 t713) ∧ Aside0 (Below w.heap.size w wc))
  case first =>
   have H := HC7.out
   clear HC7
   by_cases c13 : (t714 != t718) = true
   ·rw [if_pos c13] at H
    have c13b0 : (t714 != t718) = true := c13
    (try (have c13b1 : decide (t714 = t718) = false := by simpa using c13))
    (try (have c13b2 : (t714 == t718) = false := by simpa using c13))
    (try (have c13b3 : ¬ (t714 = t718) := by simpa using c13))
    clear c13
    (first | rw [c13b0] | (simp only [i64_w, i32_w]; rw [c13b0]) | skip)
    have H' := Aside0.mk H
    clear H
    go_wp2
    go_meet
    case rel => exact ⟨_, (true), rB, H', leB, ⟨upR HO710.out⟩, ⟨Kd.R_mono (upR HO712.out) (fun _ hk => hk.1.2)⟩, ⟨Kd.R_mono (upR HO716.out) (fun _ hk => hk.1.2)⟩, (aB HB)⟩
   ·rw [if_neg c13] at H
    have c13b0 : (t714 != t718) = false := by simpa using c13
    (try (have c13b1 : decide (t714 = t718) = true := by simpa using c13))
    (try (have c13b2 : (t714 == t718) = true := by simpa using c13))
    clear c13
    (first | rw [c13b0] | (simp only [i64_w, i32_w]; rw [c13b0]) | skip)
    replace H := bA H
    obtain ⟨t721, A14, H⟩ := H
    have H' := Aside0.mk H
    clear H
    obtain ⟨Ao15, co15, eo15⟩ := Kd.R_slice HO716.out
    subst eo15
    obtain ⟨Ao16, co16, eo16⟩ := Kd.R_slice HO720.out
    subst eo16
    go_wp2_with (first | (go_at_call 8; (with_reducible refine (laws_vInts.calls k _ _ t713 _ _ t717 t721 _ ?side1 ?side2 ?side3 ?side4 A14.out).mono ?_); (case side1 => exact zCR HO716); (case side2 => exact (Kd.R_reads' HO716.out).2.1); (case side3 => exact zCR HO720); (case side4 => exact (Kd.R_reads' HO720.out).2.1); rintro e w' ⟨rfl, ⟨nd, rfl⟩⟩; (try first | exact zQ | exact zQ2)))
    go_meet
    case rel => exact ⟨_, (!t721), rB, H', leB, ⟨upR HO710.out⟩, ⟨Kd.R_mono (upR HO712.out) (fun _ hk => hk.1.2)⟩, ⟨Kd.R_mono (upR HO716.out) (fun _ hk => hk.1.2)⟩, (aB HB)⟩
  case rest =>
   apply Classical.byContradiction
   intro hn_
   letI h_ : (0 : Nat) = 1 := (hn_ (by
    clear hn_
    clear HC7
    obtain ⟨kq, x72_6, rfl, HA, HJ6, HO_3, HO_4, HO_5, HB⟩ := hcut
    cases kq with
    | zero => exact absurd HA.out (by simp [laws_FnSteps.j0])
    | succ kj6 =>
     have H := HA.out
     clear HA
     simp only [laws_FnSteps.j0] at H
     rcases Bool.eq_false_or_eq_true x72_6 with rfl | rfl
     ·replace H := iT rfl H
      exact absurd (Option.some.inj H) (by rw [hT]; decide)
     ·replace H := iF (by decide) H
      have HC18 := Aside0.mk H
      clear H
      go_upto_if 73 with (fail)
      go_cut [] (fun wc => ∃ (kq : Nat), Aside0 (laws_FnSteps.j3 kq l0 = some r) ∧ Aside0 (kq ≤ kj6) ∧ Aside0 (Below w.heap.size w wc))
      case first =>
       have H := HC18.out
       clear HC18
       rcases Bool.eq_false_or_eq_true t714 with rfl | rfl
       ·replace H := iT rfl H
        have H' := Aside0.mk H
        clear H
        go_wp2
        go_loopg [9] kj6 (fun kq v9 w' => ∃ (x9_2 : Int), v9 = .int .i64 x9_2 ∧ Aside0 (laws_FnSteps.l0 kq l0 t707 t708 t713 x9_2 = some r) ∧ Aside0 (kq ≤ kj6) ∧ Aside0 (Kd.R k32 32 w' w.heap.size (fun _ => True) (.slice Ao9 t707.length co9) t707) ∧ Aside0 (Kd.R (Kd.int .i64) 3 w' w.heap.size (fun k_ => some k_ ≠ (v715 : Value).ownBlock) (.slice Ao10 t708.length co10) t708) ∧ Aside0 (Kd.R (Kd.int .i64) 3 w' w.heap.size (fun k_ => some k_ ≠ ((.slice Ao10 t708.length co10) : Value).ownBlock) v715 t713) ∧ Aside0 (Below w.heap.size w w'))
        case atStart => exact ⟨(0), rB, H', ⟨Nat.le_refl _⟩, ⟨upR HO_3.out⟩, ⟨upR HO_4.out⟩, ⟨upR HO_5.out⟩, (aB HB)⟩
        case round =>
         apply Classical.byContradiction
         intro hn_
         letI h_ : (0 : Nat) = 1 := (hn_ (by
          clear hn_
          clear H'
          obtain ⟨x9_2, rfl, HA, HK2, HO_3, HO_4, HO_5, HB⟩ := hrel
          cases gk with
          | zero => exact absurd HA.out (by simp [laws_FnSteps.l0])
          | succ k2 =>
           have H := HA.out
           clear HA
           simp only [laws_FnSteps.l0] at H
           replace H := ifD H
           rcases H with ⟨H, -, c20b0⟩ | ⟨H, -, c20b0⟩
           ·(first | rw [c20b0] | (simp only [i64_w, i32_w]; rw [c20b0]) | skip)
            replace H := zN H
            obtain ⟨c21b0, H⟩ := H
            replace H := zN H
            obtain ⟨c22b0, H⟩ := H
            replace H := zN H
            obtain ⟨c23b0, H⟩ := H
            replace H := zN H
            obtain ⟨c24b0, H⟩ := H
            replace H := zN H
            obtain ⟨c25b0, H⟩ := H
            by_cases c26 : ((decide ((rd t713 ((rd_T32 t707 x9_2).f0)) < 0)) != (decide ((rd t713 ((rd_T32 t707 x9_2).f1)) < 0))) = true
            ·rw [if_pos c26] at H
             have c26b0 : ((decide ((rd t713 ((rd_T32 t707 x9_2).f0)) < 0)) != (decide ((rd t713 ((rd_T32 t707 x9_2).f1)) < 0))) = true := c26
             (try (have c26b1 : decide ((decide ((rd t713 ((rd_T32 t707 x9_2).f0)) < 0)) = (decide ((rd t713 ((rd_T32 t707 x9_2).f1)) < 0))) = false := by simpa using c26))
             (try (have c26b2 : ((decide ((rd t713 ((rd_T32 t707 x9_2).f0)) < 0)) == (decide ((rd t713 ((rd_T32 t707 x9_2).f1)) < 0))) = false := by simpa using c26))
             (try (have c26b3 : ¬ ((decide ((rd t713 ((rd_T32 t707 x9_2).f0)) < 0)) = (decide ((rd t713 ((rd_T32 t707 x9_2).f1)) < 0))) := by simpa using c26))
             clear c26
             exact absurd (Option.some.inj H) (by rw [hT]; decide)
            ·rw [if_neg c26] at H
             have c26b0 : ((decide ((rd t713 ((rd_T32 t707 x9_2).f0)) < 0)) != (decide ((rd t713 ((rd_T32 t707 x9_2).f1)) < 0))) = false := by simpa using c26
             (try (have c26b1 : decide ((decide ((rd t713 ((rd_T32 t707 x9_2).f0)) < 0)) = (decide ((rd t713 ((rd_T32 t707 x9_2).f1)) < 0))) = true := by simpa using c26))
             (try (have c26b2 : ((decide ((rd t713 ((rd_T32 t707 x9_2).f0)) < 0)) == (decide ((rd t713 ((rd_T32 t707 x9_2).f1)) < 0))) = true := by simpa using c26))
             clear c26
             replace H := bA H
             obtain ⟨t726, A28, H⟩ := H
             replace H := ifD H
             rcases H with ⟨H, -, c29b0⟩ | ⟨H, -, c29b0⟩
             ·exact absurd (Option.some.inj H) (by rw [hT]; decide)
             ·have H' := Aside0.mk H
              clear H
              have p722 : 0 ≤ (x9_2 : Int) := of_decide_eq_true asmB
              have q722 : x9_2 < (t707.length : Int) := of_decide_eq_true asmB
              obtain ⟨ad722, e722, hx722_0, hx722_1, hx722_2, hx722_3, hx722_4⟩ := at_T32 (Kd.R_reads' HO_3.out).2.2 x9_2 p722 q722
              cases e722
              replace p722 := eq_true p722
              replace q722 := eq_true q722
              obtain ⟨Ao31, co31, eo31⟩ := Kd.R_slice HO_5.out
              subst eo31
              obtain ⟨ad723, e723, hx723_0, p723, q723⟩ := zr HO_5 ((rd_T32 t707 x9_2).f0)
              cases e723
              have p724 : 0 ≤ (x9_2 : Int) := of_decide_eq_true asmB
              have q724 : x9_2 < (t707.length : Int) := of_decide_eq_true asmB
              obtain ⟨ad724, e724, hx724_0, hx724_1, hx724_2, hx724_3, hx724_4⟩ := at_T32 (Kd.R_reads' HO_3.out).2.2 x9_2 p724 q724
              obtain rfl : ad722 = ad724 := (by injection e724)
              replace p724 := eq_true p724
              replace q724 := eq_true q724
              obtain ⟨ad725, e725, hx725_0, p725, q725⟩ := zr HO_5 ((rd_T32 t707 x9_2).f1)
              obtain rfl : ad723 = ad725 := (by injection e725)
              go_wp2_with (first | (go_at_call 9; (with_reducible refine (laws_vFar.calls (wrap64 ((rd t713 ((rd_T32 t707 x9_2).f0)) - (rd t713 ((rd_T32 t707 x9_2).f1)))) t726 _ A28.out).mono ?_); rintro e w' ⟨rfl, ⟨nd, rfl⟩⟩; (try first | exact zQ | exact zQ2)))
              repeat (go_quiet (first | (go_at_call 9; (with_reducible refine (laws_vFar.calls (wrap64 ((rd t713 ((rd_T32 t707 x9_2).f0)) - (rd t713 ((rd_T32 t707 x9_2).f1)))) t726 _ A28.out).mono ?_); rintro e w' ⟨rfl, ⟨nd, rfl⟩⟩; (try first | exact zQ | exact zQ2))); try go_wp2_with (first | (go_at_call 9; (with_reducible refine (laws_vFar.calls (wrap64 ((rd t713 ((rd_T32 t707 x9_2).f0)) - (rd t713 ((rd_T32 t707 x9_2).f1)))) t726 _ A28.out).mono ?_); rintro e w' ⟨rfl, ⟨nd, rfl⟩⟩; (try first | exact zQ | exact zQ2))))
              go_roundg k2
              case measure => have := HJ6.out; have := HK2.out; omega
              case rel => exact ⟨(wrap64 (x9_2 + 1)), rB, H', ⟨by have := HJ6.out; have := HK2.out; omega⟩, ⟨upR HO_3.out⟩, ⟨upR HO_4.out⟩, ⟨upR HO_5.out⟩, (aB HB)⟩
           ·(first | rw [c20b0] | (simp only [i64_w, i32_w]; rw [c20b0]) | skip)
            have H' := Aside0.mk H
            clear H
            go_wp2
            go_loopg [12] k2 (fun kq v12 w' => ∃ (x12_3 : Int), v12 = .int .i64 x12_3 ∧ Aside0 (laws_FnSteps.l1 kq l0 t708 t713 x12_3 = some r) ∧ Aside0 (kq ≤ k2) ∧ Aside0 (Kd.R (Kd.int .i64) 3 w' w.heap.size (fun k_ => some k_ ≠ (v715 : Value).ownBlock) (.slice Ao10 t708.length co10) t708) ∧ Aside0 (Kd.R (Kd.int .i64) 3 w' w.heap.size (fun k_ => some k_ ≠ ((.slice Ao10 t708.length co10) : Value).ownBlock) v715 t713) ∧ Aside0 (Below w.heap.size w w'))
            case atStart => exact ⟨(0), rB, H', ⟨Nat.le_refl _⟩, ⟨upR HO_4.out⟩, ⟨upR HO_5.out⟩, (aB HB)⟩
            case round =>
             apply Classical.byContradiction
             intro hn_
             letI h_ : (0 : Nat) = 1 := (hn_ (by
              clear hn_
              clear H'
              try clear c20b0
              obtain ⟨x12_3, rfl, HA, HK3, HO_4, HO_5, HB⟩ := hrel
              cases gk with
              | zero => exact absurd HA.out (by simp [laws_FnSteps.l1])
              | succ k3 =>
               have H := HA.out
               clear HA
               simp only [laws_FnSteps.l1] at H
               replace H := ifD H
               rcases H with ⟨H, -, c32b0⟩ | ⟨H, -, c32b0⟩
               ·replace H := zN H
                obtain ⟨c33b0, H⟩ := H
                replace H := bA H
                obtain ⟨t728, A34, H⟩ := H
                by_cases c35 : (((rd t713 x12_3) == 0) != t728) = true
                ·rw [if_pos c35] at H
                 have c35b0 : (((rd t713 x12_3) == 0) != t728) = true := c35
                 (try (have c35b1 : decide (((rd t713 x12_3) == 0) = t728) = false := by simpa using c35))
                 (try (have c35b2 : (((rd t713 x12_3) == 0) == t728) = false := by simpa using c35))
                 (try (have c35b3 : ¬ (((rd t713 x12_3) == 0) = t728) := by simpa using c35))
                 clear c35
                 exact absurd (Option.some.inj H) (by rw [hT]; decide)
                ·rw [if_neg c35] at H
                 have c35b0 : (((rd t713 x12_3) == 0) != t728) = false := by simpa using c35
                 (try (have c35b1 : decide (((rd t713 x12_3) == 0) = t728) = true := by simpa using c35))
                 (try (have c35b2 : (((rd t713 x12_3) == 0) == t728) = true := by simpa using c35))
                 clear c35
                 have H' := Aside0.mk H
                 clear H
                 obtain ⟨Ao37, co37, eo37⟩ := Kd.R_slice HO_5.out
                 subst eo37
                 obtain ⟨ad727, e727, hx727_0, p727, q727⟩ := zr HO_5 x12_3
                 cases e727
                 go_wp2_with (first | (go_at_call 10; (with_reducible refine (laws_vHas.calls k3 _ _ t708 x12_3 t728 _ ?side1 ?side2 A34.out).mono ?_); (case side1 => exact zCR HO_4); (case side2 => exact (Kd.R_reads' HO_4.out).2.1); rintro e w' ⟨rfl, ⟨nd, rfl⟩⟩; (try first | exact zQ | exact zQ2)))
                 repeat (go_quiet (first | (go_at_call 10; (with_reducible refine (laws_vHas.calls k3 _ _ t708 x12_3 t728 _ ?side1 ?side2 A34.out).mono ?_); (case side1 => exact zCR HO_4); (case side2 => exact (Kd.R_reads' HO_4.out).2.1); rintro e w' ⟨rfl, ⟨nd, rfl⟩⟩; (try first | exact zQ | exact zQ2))); try go_wp2_with (first | (go_at_call 10; (with_reducible refine (laws_vHas.calls k3 _ _ t708 x12_3 t728 _ ?side1 ?side2 A34.out).mono ?_); (case side1 => exact zCR HO_4); (case side2 => exact (Kd.R_reads' HO_4.out).2.1); rintro e w' ⟨rfl, ⟨nd, rfl⟩⟩; (try first | exact zQ | exact zQ2))))
                 go_roundg k3
                 case measure => have := HJ6.out; have := HK2.out; have := HK3.out; omega
                 case rel => exact ⟨(wrap64 (x12_3 + 1)), rB, H', ⟨by have := HJ6.out; have := HK2.out; have := HK3.out; omega⟩, ⟨upR HO_4.out⟩, ⟨upR HO_5.out⟩, (aB HB)⟩
               ·have H' := Aside0.mk H
                clear H
                obtain ⟨Ao38, co38, eo38⟩ := Kd.R_slice HO_5.out
                subst eo38
                go_wp2
                go_meet
                case rel => exact ⟨_, H', ⟨by have := HJ6.out; have := HK2.out; have := HK3.out; first | omega | exact Nat.le_refl _⟩, (aB HB)⟩
              )).elim
             omega
          )).elim
         omega
       ·replace H := iF (by decide) H
        have H' := Aside0.mk H
        clear H
        go_wp2
        go_meet
        case rel => exact ⟨_, H', ⟨by have := HJ6.out; first | omega | exact Nat.le_refl _⟩, (aB HB)⟩
      case rest =>
       apply Classical.byContradiction
       intro hn_
       letI h_ : (0 : Nat) = 1 := (hn_ (by
        clear hn_
        clear HC18
        obtain ⟨kq, HA, HJ17, HB⟩ := hcut
        cases kq with
        | zero => exact absurd HA.out (by simp [laws_FnSteps.j3])
        | succ kj17 =>
         have H := HA.out
         clear HA
         simp only [laws_FnSteps.j3] at H
         replace H := Option.bind_eq_some_iff.mp H
         obtain ⟨⟨t729, t730⟩, A390, H⟩ := H
         have A39 := Aside0.mk A390
         clear A390
         replace H := Option.bind_eq_some_iff.mp H
         obtain ⟨⟨t735, t736, t737⟩, A400, H⟩ := H
         have A40 := Aside0.mk A400
         clear A400
         replace H := Option.bind_eq_some_iff.mp H
         obtain ⟨⟨t738, t739, t740⟩, A410, H⟩ := H
         have A41 := Aside0.mk A410
         clear A410
         have HC42 := Aside0.mk H
         clear H
         go_upto_region 23 with (first | (go_at_call 11; (with_reducible refine (spec_DrawRemotestStation.calls kj17 _ _ l0 t729 t730 _ ?side1 ?side2 A39.out).mono ?_); (case side1 => exact zCB HR0 HB); (case side2 => exact HC0.out); rintro e w43 ⟨v731, v733, rfl, ho0, ho1, hb⟩; have HO732 := Aside0.mk (Kd.R_lower ho0 (below_size (bW HB))); have HO734 := Aside0.mk (Kd.R_lower ho1 (below_size (bW HB))); replace HB := uB HB hb; (try clear hb); (try clear hk); (try clear ho0); (try clear ho1); obtain ⟨Ao44, co44, eo44⟩ := Kd.R_slice HO732.out; subst eo44; obtain ⟨Ao45, co45, eo45⟩ := Kd.R_slice HO734.out; subst eo45) | (go_at_call 12; (with_reducible refine (impl_RemotestStation.calls kj17 _ _ t729 _ _ t730 t735 t736 t737 _ ?side1 ?side2 ?side3 ?side4 A40.out).mono ?_); (case side1 => exact zCR HO732); (case side2 => exact (Kd.R_reads' HO732.out).2.1); (case side3 => exact zCR HO734); (case side4 => exact (Kd.R_reads' HO734.out).2.1); rintro e w46 ⟨rfl, hb⟩; replace HO732 := uR HO732 hb; replace HO734 := uR HO734 hb; replace HB := uB HB hb; (try clear hb); (try clear hk)) | (go_at_call 13; (with_reducible refine (spec_RemotestStation.calls kj17 _ _ t729 _ _ t730 t738 t739 t740 _ ?side1 ?side2 ?side3 ?side4 A41.out).mono ?_); (case side1 => exact zCR HO732); (case side2 => exact (Kd.R_reads' HO732.out).2.1); (case side3 => exact zCR HO734); (case side4 => exact (Kd.R_reads' HO734.out).2.1); rintro e w47 ⟨rfl, hb⟩; replace HO732 := uR HO732 hb; replace HO734 := uR HO734 hb; replace HB := uB HB hb; (try clear hb); (try clear hk)))
         (try simp only [Act.put, List.setIfInBounds_toArray, List.set_cons_zero, List.set_cons_succ])
         go_cut [154] (fun v154 wc => ∃ (kq : Nat) (x154_41 : Bool), v154 = .bool x154_41 ∧ Aside0 (laws_FnSteps.j4 kq l0 x154_41 = some r) ∧ Aside0 (kq ≤ kj17) ∧ Aside0 (Below w.heap.size w wc))
         case first =>
          have H := HC42.out
          clear HC42
          replace H := ifI H
          rcases H with ⟨H, -, c48b0, c48b1⟩ | ⟨H, c48, c48b0, c48b1⟩
          ·(first | rw [c48b0] | (simp only [i64_w, i32_w]; rw [c48b0]) | skip)
           replace H := ifI H
           rcases H with ⟨H, -, c49b0, c49b1⟩ | ⟨H, c49, c49b0, c49b1⟩
           ·have H' := Aside0.mk H
            clear H
            go_wp2
            go_meet
            case rel => exact ⟨_, ((t737 != t740)), rB, H', ⟨by have := HJ6.out; have := HJ17.out; first | omega | exact Nat.le_refl _⟩, (aB HB)⟩
           ·have H' := Aside0.mk H
            clear H
            go_wp2
            go_meet
            case rel => exact ⟨_, (true), rB, H', ⟨by have := HJ6.out; have := HJ17.out; first | omega | exact Nat.le_refl _⟩, (aB HB)⟩
          ·(first | rw [c48b0] | (simp only [i64_w, i32_w]; rw [c48b0]) | skip)
           have H' := Aside0.mk H
           clear H
           go_wp2
           go_meet
           case rel => exact ⟨_, (true), rB, H', ⟨by have := HJ6.out; have := HJ17.out; first | omega | exact Nat.le_refl _⟩, (aB HB)⟩
         case rest =>
          apply Classical.byContradiction
          intro hn_
          letI h_ : (0 : Nat) = 1 := (hn_ (by
           clear hn_
           clear HC42
           obtain ⟨kq, x154_41, rfl, HA, HJ41, HB⟩ := hcut
           cases kq with
           | zero => exact absurd HA.out (by simp [laws_FnSteps.j4])
           | succ kj41 =>
            have H := HA.out
            clear HA
            simp only [laws_FnSteps.j4] at H
            rcases Bool.eq_false_or_eq_true x154_41 with rfl | rfl
            ·replace H := iT rfl H
             exact absurd (Option.some.inj H) (by rw [hT]; decide)
            ·replace H := iF (by decide) H
             replace H := bA H
             obtain ⟨t741, A51, H⟩ := H
             replace H := Option.bind_eq_some_iff.mp H
             obtain ⟨⟨t744, t745⟩, A520, H⟩ := H
             have A52 := Aside0.mk A520
             clear A520
             replace H := Option.bind_eq_some_iff.mp H
             obtain ⟨⟨t748, t749⟩, A530, H⟩ := H
             have A53 := Aside0.mk A530
             clear A530
             have HC54 := Aside0.mk H
             clear H
             go_upto_region 28 with (first | (go_at_call 14; (with_reducible refine (spec_DrawCutStations.calls kj41 _ _ l0 t741 _ ?side1 ?side2 A51.out).mono ?_); (case side1 => exact zCB HR0 HB); (case side2 => exact HC0.out); rintro e w55 ⟨v742, rfl, ho0, hb⟩; have HO743 := Aside0.mk (Kd.R_lower ho0 (below_size (bW HB))); replace HB := uB HB hb; (try clear hb); (try clear hk); (try clear ho0); obtain ⟨Ao56, co56, eo56⟩ := Kd.R_slice HO743.out; subst eo56) | (go_at_call 15; (with_reducible refine (impl_CutStations.calls kj41 _ _ t741 t744 t745 _ ?side1 ?side2 A52.out).mono ?_); (case side1 => exact zCR HO743); (case side2 => exact (Kd.R_reads' HO743.out).2.1); rintro e w57 ⟨v746, rfl, ho0, hb⟩; have HO747 := Aside0.mk (Kd.R_lower ho0 (below_size (bW HB))); replace HO743 := uR HO743 hb; replace HB := uB HB hb; (try clear hb); (try clear hk); (try clear ho0)) | (go_at_call 16; (with_reducible refine (spec_CutStations.calls kj41 _ _ t741 t748 t749 _ ?side1 ?side2 A53.out).mono ?_); (case side1 => exact zCR HO743); (case side2 => exact (Kd.R_reads' HO743.out).2.1); rintro e w58 ⟨v750, rfl, ho0, hb⟩; have HO751 := Aside0.mk (Kd.R_lower (Kd.R_new' ho0 (Kd.R_lt (upR HO747.out))) (below_size (bW HB))); replace HO743 := uR HO743 hb; replace HO747 := Aside0.mk (Kd.R_elder' (upR HO747.out) (Kd.R_base ho0) hb); replace HB := uB HB hb; (try clear hb); (try clear hk); (try clear ho0)))
             (try simp only [Act.put, List.setIfInBounds_toArray, List.set_cons_zero, List.set_cons_succ])
             go_cut [175] (fun v175 wc => ∃ (kq : Nat) (x175_53 : Bool), v175 = .bool x175_53 ∧ Aside0 (laws_FnSteps.j5 kq l0 t741 t744 t745 x175_53 = some r) ∧ Aside0 (kq ≤ kj41) ∧ Aside0 (Kd.R k32 32 wc w.heap.size (fun _ => True) (.slice Ao56 t741.length co56) t741) ∧ Aside0 (Kd.R (Kd.int .i64) 3 wc w.heap.size (fun _ => True) v746 t744) ∧ Aside0 (Below w.heap.size w wc))
             case first =>
              have H := HC54.out
              clear HC54
              by_cases c59 : (t745 != t749) = true
              ·rw [if_pos c59] at H
               have c59b0 : (t745 != t749) = true := c59
               (try (have c59b1 : decide (t745 = t749) = false := by simpa using c59))
               (try (have c59b2 : (t745 == t749) = false := by simpa using c59))
               (try (have c59b3 : ¬ (t745 = t749) := by simpa using c59))
               clear c59
               (first | rw [c59b0] | (simp only [i64_w, i32_w]; rw [c59b0]) | skip)
               have H' := Aside0.mk H
               clear H
               go_wp2
               go_meet
               case rel => exact ⟨_, (true), rB, H', ⟨by have := HJ6.out; have := HJ17.out; have := HJ41.out; first | omega | exact Nat.le_refl _⟩, ⟨upR HO743.out⟩, ⟨Kd.R_mono (upR HO747.out) (fun _ hk => trivial)⟩, (aB HB)⟩
              ·rw [if_neg c59] at H
               have c59b0 : (t745 != t749) = false := by simpa using c59
               (try (have c59b1 : decide (t745 = t749) = true := by simpa using c59))
               (try (have c59b2 : (t745 == t749) = true := by simpa using c59))
               clear c59
               (first | rw [c59b0] | (simp only [i64_w, i32_w]; rw [c59b0]) | skip)
               replace H := bA H
               obtain ⟨t752, A60, H⟩ := H
               have H' := Aside0.mk H
               clear H
               obtain ⟨Ao61, co61, eo61⟩ := Kd.R_slice HO747.out
               subst eo61
               obtain ⟨Ao62, co62, eo62⟩ := Kd.R_slice HO751.out
               subst eo62
               go_wp2_with (first | (go_at_call 8; (with_reducible refine (laws_vInts.calls kj41 _ _ t744 _ _ t748 t752 _ ?side1 ?side2 ?side3 ?side4 A60.out).mono ?_); (case side1 => exact zCR HO747); (case side2 => exact (Kd.R_reads' HO747.out).2.1); (case side3 => exact zCR HO751); (case side4 => exact (Kd.R_reads' HO751.out).2.1); rintro e w' ⟨rfl, ⟨nd, rfl⟩⟩; (try first | exact zQ | exact zQ2)))
               go_meet
               case rel => exact ⟨_, (!t752), rB, H', ⟨by have := HJ6.out; have := HJ17.out; have := HJ41.out; first | omega | exact Nat.le_refl _⟩, ⟨upR HO743.out⟩, ⟨Kd.R_mono (upR HO747.out) (fun _ hk => trivial)⟩, (aB HB)⟩
             case rest =>
              apply Classical.byContradiction
              intro hn_
              letI h_ : (0 : Nat) = 1 := (hn_ (by
               clear hn_
               clear HC54
               obtain ⟨kq, x175_53, rfl, HA, HJ53, HO_21, HO_22, HB⟩ := hcut
               cases kq with
               | zero => exact absurd HA.out (by simp [laws_FnSteps.j5])
               | succ kj53 =>
                have H := HA.out
                clear HA
                simp only [laws_FnSteps.j5] at H
                rcases Bool.eq_false_or_eq_true x175_53 with rfl | rfl
                ·replace H := iT rfl H
                 exact absurd (Option.some.inj H) (by rw [hT]; decide)
                ·replace H := iF (by decide) H
                 rcases Bool.eq_false_or_eq_true t745 with rfl | rfl
                 ·replace H := iT rfl H
                  replace H := Option.bind_eq_some_iff.mp H
                  obtain ⟨⟨t753, t754⟩, A650, H⟩ := H
                  have A65 := Aside0.mk A650
                  clear A650
                  have H' := Aside0.mk H
                  clear H
                  go_wp2_with (first | (go_at_call 17; (with_reducible refine (impl_CavesOf.calls kj53 _ _ t741 t753 t754 _ ?side1 ?side2 A65.out).mono ?_); (case side1 => exact zCR HO_21); (case side2 => exact (Kd.R_reads' HO_21.out).2.1); rintro e w66 ⟨v755, rfl, ho0, hb⟩; have HO756 := Aside0.mk (Kd.S_lower (Kd.S_new' ho0 (Kd.R_lt (upR HO_22.out))) (below_size (bW HB))); replace HO_21 := uR HO_21 hb; replace HO_22 := uR HO_22 hb; replace HB := uB HB hb; (try clear hb); (try clear hk); (try clear ho0)))
                  go_loopg [28] kj53 (fun kq v28 w' => ∃ (x28_5 : Int), v28 = .int .i64 x28_5 ∧ Aside0 (laws_FnSteps.l2 kq l0 t741 t744 t753 t754 x28_5 = some r) ∧ Aside0 (kq ≤ kj53) ∧ Aside0 (Kd.R k32 32 w' w.heap.size (fun _ => True) (.slice Ao56 t741.length co56) t741) ∧ Aside0 (Kd.R (Kd.int .i64) 3 w' w.heap.size (fun _ => True) v746 t744) ∧ Aside0 (Kd.S (Kd.slice 3 (Kd.int .i64)) 25 w' w.heap.size (fun k_ => some k_ ≠ (v746 : Value).ownBlock) v755 t753) ∧ Aside0 (Below w.heap.size w w'))
                  case atStart => exact ⟨(0), rB, H', ⟨Nat.le_refl _⟩, ⟨upR HO_21.out⟩, ⟨upR HO_22.out⟩, ⟨by (with_reducible repeat (first | apply Kd.S_alloc | apply Kd.S_drewN | apply Kd.S_drew)); exact Kd.S_mono HO756.out (fun _ hk => hk.2)⟩, (aB HB)⟩
                  case round =>
                   apply Classical.byContradiction
                   intro hn_
                   letI h_ : (0 : Nat) = 1 := (hn_ (by
                    clear hn_
                    clear H'
                    obtain ⟨x28_5, rfl, HA, HK5, HO_21, HO_22, HO_26, HB⟩ := hrel
                    cases gk with
                    | zero => exact absurd HA.out (by simp [laws_FnSteps.l2])
                    | succ k5 =>
                     have H := HA.out
                     clear HA
                     simp only [laws_FnSteps.l2] at H
                     replace H := ifD H
                     rcases H with ⟨H, -, c67b0⟩ | ⟨H, -, c67b0⟩
                     ·obtain ⟨y766, hy766⟩ : ∃ y_ : List (S32), y_ = (([] : List (S32))) := ⟨_, rfl⟩
                      rw [← hy766] at H
                      have Ny766 := Aside0.mk hy766
                      clear hy766
                      have H' := Aside0.mk H
                      clear H
                      obtain ⟨Ao68, co68, eo68⟩ := Kd.R_slice HO_22.out
                      subst eo68
                      go_wp2_with (first | ((with_reducible refine gate_dst (N := 188) rfl ?_); (try (refine gate_guard (by rfl) ?_; dsimp only)); refine Kd.R_lit k32 _ 32 ?hg (N := 188) ?hd (xs := ([] : List (S32))) (inner := []) (ok := fun _ => True) (okp := fun _ => True) ?hr ?hp (fun _ hk => hk) trivial (Below.refl _ _) (Nat.le_refl _) (by simp) ?_; (case hd => rfl); (case hg => rfl); (case hr => first | (go_simp; done) | (go_simp; rfl)); (case hp => exact (Reps.none _ _)); intro v767 w69 ho70 hb hg_ hnew_; clear hg_ hnew_; (first | rw [← Ny766.out] at ho70 | (simp only [Int.reduceToNat] at ho70; rw [← Ny766.out] at ho70)); have HO768 := Aside0.mk (Kd.R_lower (Kd.R_new' ho70 (Kd.R_lt (upR HO_21.out))) (below_size (bW HB))); replace HO_21 := Aside0.mk (Kd.R_elder' (upR HO_21.out) (Kd.R_base ho70) hb); replace HO_22 := uR HO_22 hb; replace HO_26 := Aside0.mk (Kd.S_below (upS HO_26.out) hb); replace HB := uB HB hb; clear hb ho70))
                      go_loopg [29, 30] k5 (fun kq v29 v30 w' => ∃ (x29_6 : List (S32)) (x30_6 : Int), v30 = .int .i64 x30_6 ∧ Aside0 (laws_FnSteps.l3 kq l0 t741 t744 t753 t754 x28_5 x29_6 x30_6 = some r) ∧ Aside0 (kq ≤ k5) ∧ Aside0 (Kd.R k32 32 w' w.heap.size (fun k_ => some k_ ≠ (v29 : Value).ownBlock) (.slice Ao56 t741.length co56) t741) ∧ Aside0 (Kd.R (Kd.int .i64) 3 w' w.heap.size (fun _ => True) (.slice Ao68 t744.length co68) t744) ∧ Aside0 (Kd.S (Kd.slice 3 (Kd.int .i64)) 25 w' w.heap.size (fun k_ => some k_ ≠ ((.slice Ao68 t744.length co68) : Value).ownBlock) v755 t753) ∧ Aside0 (Kd.R k32 32 w' w.heap.size (fun k_ => some k_ ≠ ((.slice Ao56 t741.length co56) : Value).ownBlock) v29 x29_6) ∧ Aside0 (Below w.heap.size w w'))
                      case atStart => exact ⟨(y766), (0), rB, H', ⟨Nat.le_refl _⟩, ⟨Kd.R_mono (upR HO_21.out) (fun _ hk => hk.2)⟩, ⟨upR HO_22.out⟩, ⟨upS HO_26.out⟩, ⟨Kd.R_mono (upR HO768.out) (fun _ hk => hk.2)⟩, (aB HB)⟩
                      case round =>
                       apply Classical.byContradiction
                       intro hn_
                       letI h_ : (0 : Nat) = 1 := (hn_ (by
                        clear hn_
                        clear H'
                        try clear c67b0
                        obtain ⟨x29_6, x30_6, rfl, HA, HK6, HO_21, HO_22, HO_26, HO_29, HB⟩ := hrel
                        cases gk with
                        | zero => exact absurd HA.out (by simp [laws_FnSteps.l3])
                        | succ k6 =>
                         have H := HA.out
                         clear HA
                         simp only [laws_FnSteps.l3] at H
                         replace H := ifD H
                         rcases H with ⟨H, -, c71b0⟩ | ⟨H, -, c71b0⟩
                         ·replace H := zN H
                          obtain ⟨c72b0, H⟩ := H
                          replace H := zN H
                          obtain ⟨c73b0, H⟩ := H
                          replace H := zN H
                          obtain ⟨c74b0, H⟩ := H
                          replace H := ifI H
                          rcases H with ⟨H, -, c75b0, c75b1⟩ | ⟨H, c75, c75b0, c75b1⟩
                          ·have H' := Aside0.mk H
                           clear H
                           have p769 : 0 ≤ (x30_6 : Int) := of_decide_eq_true asmB
                           have q769 : x30_6 < (t741.length : Int) := of_decide_eq_true asmB
                           obtain ⟨ad769, e769, hx769_0, hx769_1, hx769_2, hx769_3, hx769_4⟩ := at_T32 (Kd.R_reads' HO_21.out).2.2 x30_6 p769 q769
                           cases e769
                           replace p769 := eq_true p769
                           replace q769 := eq_true q769
                           obtain ⟨ad770, e770, hx770_0, p770, q770⟩ := zr HO_22 x28_5
                           cases e770
                           go_wp2
                           repeat (go_quiet (fail); try go_wp2)
                           go_roundg k6
                           case measure => have := HJ6.out; have := HJ17.out; have := HJ41.out; have := HJ53.out; have := HK5.out; have := HK6.out; omega
                           case rel => exact ⟨(x29_6), (wrap64 (x30_6 + 1)), rB, H', ⟨by have := HJ6.out; have := HJ17.out; have := HJ41.out; have := HJ53.out; have := HK5.out; have := HK6.out; omega⟩, ⟨upR HO_21.out⟩, ⟨upR HO_22.out⟩, ⟨upS HO_26.out⟩, ⟨upR HO_29.out⟩, (aB HB)⟩
                          ·replace H := ifI H
                           rcases H with ⟨H, -, c76b0, c76b1⟩ | ⟨H, c76, c76b0, c76b1⟩
                           ·have H' := Aside0.mk H
                            clear H
                            have p769 : 0 ≤ (x30_6 : Int) := of_decide_eq_true asmB
                            have q769 : x30_6 < (t741.length : Int) := of_decide_eq_true asmB
                            obtain ⟨ad769, e769, hx769_0, hx769_1, hx769_2, hx769_3, hx769_4⟩ := at_T32 (Kd.R_reads' HO_21.out).2.2 x30_6 p769 q769
                            cases e769
                            replace p769 := eq_true p769
                            replace q769 := eq_true q769
                            obtain ⟨ad770, e770, hx770_0, p770, q770⟩ := zr HO_22 x28_5
                            cases e770
                            have p771 : 0 ≤ (x30_6 : Int) := of_decide_eq_true asmB
                            have q771 : x30_6 < (t741.length : Int) := of_decide_eq_true asmB
                            obtain ⟨ad771, e771, hx771_0, hx771_1, hx771_2, hx771_3, hx771_4⟩ := at_T32 (Kd.R_reads' HO_21.out).2.2 x30_6 p771 q771
                            obtain rfl : ad769 = ad771 := (by injection e771)
                            replace p771 := eq_true p771
                            replace q771 := eq_true q771
                            obtain ⟨ad772, e772, hx772_0, p772, q772⟩ := zr HO_22 x28_5
                            obtain rfl : ad770 = ad772 := (by injection e772)
                            go_wp2
                            repeat (go_quiet (fail); try go_wp2)
                            go_roundg k6
                            case measure => have := HJ6.out; have := HJ17.out; have := HJ41.out; have := HJ53.out; have := HK5.out; have := HK6.out; omega
                            case rel => exact ⟨(x29_6), (wrap64 (x30_6 + 1)), rB, H', ⟨by have := HJ6.out; have := HJ17.out; have := HJ41.out; have := HJ53.out; have := HK5.out; have := HK6.out; omega⟩, ⟨upR HO_21.out⟩, ⟨upR HO_22.out⟩, ⟨upS HO_26.out⟩, ⟨upR HO_29.out⟩, (aB HB)⟩
                           ·replace H := zM H
                            obtain ⟨c77, H⟩ := H
                            have LMc77 := Aside0.mk c77
                            clear c77
                            obtain ⟨y774, hy774⟩ : ∃ y_ : List (S32), y_ = (x29_6 ++ [(⟨(rd_T32 t741 x30_6).f0, (rd_T32 t741 x30_6).f1, (rd_T32 t741 x30_6).f2, (rd_T32 t741 x30_6).f3, (rd_T32 t741 x30_6).f4⟩ : S32)]) := ⟨_, rfl⟩
                            rw [← hy774] at H
                            have Ny774 := Aside0.mk hy774
                            clear hy774
                            have H' := Aside0.mk H
                            clear H
                            have p769 : 0 ≤ (x30_6 : Int) := of_decide_eq_true asmB
                            have q769 : x30_6 < (t741.length : Int) := of_decide_eq_true asmB
                            obtain ⟨ad769, e769, hx769_0, hx769_1, hx769_2, hx769_3, hx769_4⟩ := at_T32 (Kd.R_reads' HO_21.out).2.2 x30_6 p769 q769
                            cases e769
                            replace p769 := eq_true p769
                            replace q769 := eq_true q769
                            obtain ⟨ad770, e770, hx770_0, p770, q770⟩ := zr HO_22 x28_5
                            cases e770
                            have p771 : 0 ≤ (x30_6 : Int) := of_decide_eq_true asmB
                            have q771 : x30_6 < (t741.length : Int) := of_decide_eq_true asmB
                            obtain ⟨ad771, e771, hx771_0, hx771_1, hx771_2, hx771_3, hx771_4⟩ := at_T32 (Kd.R_reads' HO_21.out).2.2 x30_6 p771 q771
                            obtain rfl : ad769 = ad771 := (by injection e771)
                            replace p771 := eq_true p771
                            replace q771 := eq_true q771
                            obtain ⟨ad772, e772, hx772_0, p772, q772⟩ := zr HO_22 x28_5
                            obtain rfl : ad770 = ad772 := (by injection e772)
                            have p773 : 0 ≤ (x30_6 : Int) := of_decide_eq_true asmB
                            have q773 : x30_6 < (t741.length : Int) := of_decide_eq_true asmB
                            obtain ⟨ad773, e773, hx773_0, hx773_1, hx773_2, hx773_3, hx773_4⟩ := at_T32 (Kd.R_reads' HO_21.out).2.2 x30_6 p773 q773
                            obtain rfl : ad769 = ad773 := (by injection e773)
                            replace p773 := eq_true p773
                            replace q773 := eq_true q773
                            go_wp2_with (first | ((with_reducible refine gate_builtin (b := .append) (xs := #[.tmp 217, .tmp 222]) rfl ?_); (try (refine gate_guard (by rfl) ?_; dsimp only)); at_builtin; refine Kd.R_append k32 (w0 := w) w.heap.size rfl (.tmp 217) (.tmp 222) 24 32 (.agg #[(.int .i64 0), (.int .i64 0), (.int .i64 0), (.int .i64 0), (.int .i64 0)]) 40 rfl Tryz.underlying24 info32 rfl (by decide) (by omega) u29 x29_6 (⟨(rd_T32 t741 x30_6).f0, (rd_T32 t741 x30_6).f1, (rd_T32 t741 x30_6).f2, (rd_T32 t741 x30_6).f3, (rd_T32 t741 x30_6).f4⟩ : S32) [.int .i64 ((rd_T32 t741 x30_6).f0), .int .i64 ((rd_T32 t741 x30_6).f1), .int .i64 ((rd_T32 t741 x30_6).f2), .int .i64 ((rd_T32 t741 x30_6).f3), .int .i64 ((rd_T32 t741 x30_6).f4)] (fun k_ => some k_ ≠ (.slice (some ad769) t741.length co56 : Value).ownBlock) (fun _ => False) rfl rfl ?aP (fun _ hk => hk.elim) ?aF ?aO ?aB ?aS ?aL ?_; (case aP => exact k32_mkM _ _ _ (⟨(rd_T32 t741 x30_6).f0, (rd_T32 t741 x30_6).f1, (rd_T32 t741 x30_6).f2, (rd_T32 t741 x30_6).f3, (rd_T32 t741 x30_6).f4⟩ : S32)); (case aB => exact (bW HB)); (case aF => exact (fun k_ hk => Kd.fresh' (Kd.R_lt (upR HO_21.out)) k_ hk)); (case aO => exact (upR HO_29.out)); (case aS => exact (below_size (bW HB))); (case aL => have := LMc77.out; omega); intro v775 w78 ho hb hg hat; rw [← Ny774.out] at ho; have HO776 := Aside0.mk (ho); replace HO_21 := Aside0.mk (Kd.R_after (ok := (fun _ => True)) (Kd.R_mono (upR HO_21.out) (fun _ hk => ⟨trivial, hk⟩)) hg hat); replace HO_22 := Aside0.mk (Kd.R_over' (upR HO_22.out) (Kd.R_typed (upR HO_29.out)) (by decide) hg); replace HO_26 := Aside0.mk (Kd.S_over' (upS HO_26.out) (Kd.R_typed (upR HO_29.out)) (by decide) hg); replace HB := Aside0.mk (hb); clear HO_29; clear ho hb hg hat))
                            repeat (go_quiet (first | ((with_reducible refine gate_builtin (b := .append) (xs := #[.tmp 217, .tmp 222]) rfl ?_); (try (refine gate_guard (by rfl) ?_; dsimp only)); at_builtin; refine Kd.R_append k32 (w0 := w) w.heap.size rfl (.tmp 217) (.tmp 222) 24 32 (.agg #[(.int .i64 0), (.int .i64 0), (.int .i64 0), (.int .i64 0), (.int .i64 0)]) 40 rfl Tryz.underlying24 info32 rfl (by decide) (by omega) u29 x29_6 (⟨(rd_T32 t741 x30_6).f0, (rd_T32 t741 x30_6).f1, (rd_T32 t741 x30_6).f2, (rd_T32 t741 x30_6).f3, (rd_T32 t741 x30_6).f4⟩ : S32) [.int .i64 ((rd_T32 t741 x30_6).f0), .int .i64 ((rd_T32 t741 x30_6).f1), .int .i64 ((rd_T32 t741 x30_6).f2), .int .i64 ((rd_T32 t741 x30_6).f3), .int .i64 ((rd_T32 t741 x30_6).f4)] (fun k_ => some k_ ≠ (.slice (some ad769) t741.length co56 : Value).ownBlock) (fun _ => False) rfl rfl ?aP (fun _ hk => hk.elim) ?aF ?aO ?aB ?aS ?aL ?_; (case aP => exact k32_mkM _ _ _ (⟨(rd_T32 t741 x30_6).f0, (rd_T32 t741 x30_6).f1, (rd_T32 t741 x30_6).f2, (rd_T32 t741 x30_6).f3, (rd_T32 t741 x30_6).f4⟩ : S32)); (case aB => exact (bW HB)); (case aF => exact (fun k_ hk => Kd.fresh' (Kd.R_lt (upR HO_21.out)) k_ hk)); (case aO => exact (upR HO_29.out)); (case aS => exact (below_size (bW HB))); (case aL => have := LMc77.out; omega); intro v775 w78 ho hb hg hat; rw [← Ny774.out] at ho; have HO776 := Aside0.mk (ho); replace HO_21 := Aside0.mk (Kd.R_after (ok := (fun _ => True)) (Kd.R_mono (upR HO_21.out) (fun _ hk => ⟨trivial, hk⟩)) hg hat); replace HO_22 := Aside0.mk (Kd.R_over' (upR HO_22.out) (Kd.R_typed (upR HO_29.out)) (by decide) hg); replace HO_26 := Aside0.mk (Kd.S_over' (upS HO_26.out) (Kd.R_typed (upR HO_29.out)) (by decide) hg); replace HB := Aside0.mk (hb); clear HO_29; clear ho hb hg hat)); try go_wp2_with (first | ((with_reducible refine gate_builtin (b := .append) (xs := #[.tmp 217, .tmp 222]) rfl ?_); (try (refine gate_guard (by rfl) ?_; dsimp only)); at_builtin; refine Kd.R_append k32 (w0 := w) w.heap.size rfl (.tmp 217) (.tmp 222) 24 32 (.agg #[(.int .i64 0), (.int .i64 0), (.int .i64 0), (.int .i64 0), (.int .i64 0)]) 40 rfl Tryz.underlying24 info32 rfl (by decide) (by omega) u29 x29_6 (⟨(rd_T32 t741 x30_6).f0, (rd_T32 t741 x30_6).f1, (rd_T32 t741 x30_6).f2, (rd_T32 t741 x30_6).f3, (rd_T32 t741 x30_6).f4⟩ : S32) [.int .i64 ((rd_T32 t741 x30_6).f0), .int .i64 ((rd_T32 t741 x30_6).f1), .int .i64 ((rd_T32 t741 x30_6).f2), .int .i64 ((rd_T32 t741 x30_6).f3), .int .i64 ((rd_T32 t741 x30_6).f4)] (fun k_ => some k_ ≠ (.slice (some ad769) t741.length co56 : Value).ownBlock) (fun _ => False) rfl rfl ?aP (fun _ hk => hk.elim) ?aF ?aO ?aB ?aS ?aL ?_; (case aP => exact k32_mkM _ _ _ (⟨(rd_T32 t741 x30_6).f0, (rd_T32 t741 x30_6).f1, (rd_T32 t741 x30_6).f2, (rd_T32 t741 x30_6).f3, (rd_T32 t741 x30_6).f4⟩ : S32)); (case aB => exact (bW HB)); (case aF => exact (fun k_ hk => Kd.fresh' (Kd.R_lt (upR HO_21.out)) k_ hk)); (case aO => exact (upR HO_29.out)); (case aS => exact (below_size (bW HB))); (case aL => have := LMc77.out; omega); intro v775 w78 ho hb hg hat; rw [← Ny774.out] at ho; have HO776 := Aside0.mk (ho); replace HO_21 := Aside0.mk (Kd.R_after (ok := (fun _ => True)) (Kd.R_mono (upR HO_21.out) (fun _ hk => ⟨trivial, hk⟩)) hg hat); replace HO_22 := Aside0.mk (Kd.R_over' (upR HO_22.out) (Kd.R_typed (upR HO_29.out)) (by decide) hg); replace HO_26 := Aside0.mk (Kd.S_over' (upS HO_26.out) (Kd.R_typed (upR HO_29.out)) (by decide) hg); replace HB := Aside0.mk (hb); clear HO_29; clear ho hb hg hat)))
                            go_roundg k6
                            case measure => have := HJ6.out; have := HJ17.out; have := HJ41.out; have := HJ53.out; have := HK5.out; have := HK6.out; omega
                            case rel => exact ⟨(y774), (wrap64 (x30_6 + 1)), rB, H', ⟨by have := HJ6.out; have := HJ17.out; have := HJ41.out; have := HJ53.out; have := HK5.out; have := HK6.out; omega⟩, ⟨Kd.R_mono (upR HO_21.out) (fun _ hk => hk.2)⟩, ⟨upR HO_22.out⟩, ⟨upS HO_26.out⟩, ⟨upR HO776.out⟩, (aB HB)⟩
                         ·replace H := Option.bind_eq_some_iff.mp H
                          obtain ⟨⟨t777, t778⟩, A790, H⟩ := H
                          have A79 := Aside0.mk A790
                          clear A790
                          have H' := Aside0.mk H
                          clear H
                          obtain ⟨Ao80, co80, eo80⟩ := Kd.R_slice HO_29.out
                          subst eo80
                          go_wp2_with (first | (go_at_call 17; (with_reducible refine (impl_CavesOf.calls k6 _ _ x29_6 t777 t778 _ ?side1 ?side2 A79.out).mono ?_); (case side1 => exact zCR HO_29); (case side2 => exact (Kd.R_reads' HO_29.out).2.1); rintro e w81 ⟨v779, rfl, ho0, hb⟩; have HO780 := Aside0.mk (Kd.S_lower (Kd.S_new' (Kd.S_new' ho0 (Kd.R_lt (upR HO_22.out))) (Kd.S_lt (upS HO_26.out))) (below_size (bW HB))); replace HO_21 := uR HO_21 hb; replace HO_22 := uR HO_22 hb; replace HO_26 := Aside0.mk (Kd.S_elder' (upS HO_26.out) (Kd.S_base ho0) hb); replace HO_29 := uR HO_29 hb; replace HB := uB HB hb; (try clear hb); (try clear hk); (try clear ho0)))
                          go_loopg [33, 35] k6 (fun kq v33 v35 w' => ∃ (x33_7 x35_7 : Int), v33 = .int .i64 x33_7 ∧ v35 = .int .i64 x35_7 ∧ Aside0 (laws_FnSteps.l4 kq l0 t741 t744 t753 t754 x28_5 t777 t778 x33_7 0 x35_7 = some r) ∧ Aside0 (kq ≤ k6) ∧ Aside0 (Kd.R k32 32 w' w.heap.size (fun _ => True) (.slice Ao56 t741.length co56) t741) ∧ Aside0 (Kd.R (Kd.int .i64) 3 w' w.heap.size (fun _ => True) (.slice Ao68 t744.length co68) t744) ∧ Aside0 (Kd.S (Kd.slice 3 (Kd.int .i64)) 25 w' w.heap.size (fun k_ => some k_ ≠ ((.slice Ao68 t744.length co68) : Value).ownBlock ∧ some k_ ≠ (v779 : Value).ownBlock) v755 t753) ∧ Aside0 (Kd.S (Kd.slice 3 (Kd.int .i64)) 25 w' w.heap.size (fun k_ => some k_ ≠ ((.slice Ao68 t744.length co68) : Value).ownBlock ∧ some k_ ≠ (v755 : Value).ownBlock) v779 t777) ∧ Aside0 (Below w.heap.size w w'))
                          case atStart => exact ⟨(0), (0), rB, rB, H', ⟨Nat.le_refl _⟩, ⟨Kd.R_mono (upR HO_21.out) (fun _ hk => trivial)⟩, ⟨upR HO_22.out⟩, ⟨upS HO_26.out⟩, ⟨by (with_reducible repeat (first | apply Kd.S_alloc | apply Kd.S_drewN | apply Kd.S_drew)); exact Kd.S_mono HO780.out (fun _ hk => ⟨hk.1.2, hk.2⟩)⟩, (aB HB)⟩
                          case round =>
                           apply Classical.byContradiction
                           intro hn_
                           letI h_ : (0 : Nat) = 1 := (hn_ (by
                            clear hn_
                            clear H'
                            try clear c67b0
                            try clear c71b0
                            obtain ⟨x33_7, x35_7, rfl, rfl, HA, HK7, HO_21, HO_22, HO_26, HO_31, HB⟩ := hrel
                            cases gk with
                            | zero => exact absurd HA.out (by simp [laws_FnSteps.l4])
                            | succ k7 =>
                             have H := HA.out
                             clear HA
                             simp only [laws_FnSteps.l4] at H
                             replace H := ifD H
                             rcases H with ⟨H, -, c82b0⟩ | ⟨H, -, c82b0⟩
                             ·replace H := zN H
                              obtain ⟨c83b0, H⟩ := H
                              have H' := Aside0.mk H
                              clear H
                              obtain ⟨Ao84, co84, eo84⟩ := Kd.S_slice HO_26.out
                              subst eo84
                              have p781 : 0 ≤ (x35_7 : Int) := of_decide_eq_true asmB
                              have q781 : x35_7 < (t753.length : Int) := of_decide_eq_true asmB
                              obtain ⟨ad781, A781_0, c781_0, e781, hx781_0, hl781_0, hi781_0⟩ := at_L4 (Kd.S_reads' HO_26.out).2.2 x35_7 p781 q781
                              cases e781
                              obtain ⟨ce781, hce781, hMe781, hcc781⟩ := Kd.S_get HO_26.out [] x35_7 p781 (by first | exact q781 | exact of_decide_eq_true asmB | (have e_ := (Kd.S_reads' HO_26.out).1; omega))
                              obtain ⟨ve781_0, rfl, ge781_0⟩ := hMe781
                              have hv781_0 := hcc781 0 _ rfl
                              rw [Nat.add_zero, show ((Kd.slice 3 (Kd.int .i64))).sz = 1 from rfl, Nat.mul_one] at hv781_0
                              replace hv781_0 := Option.some.inj (hv781_0.symm.trans hx781_0)
                              rw [hv781_0] at ge781_0
                              have HL781_0 := Aside0.mk (show Kd.R (Kd.int .i64) 3 _ _ _ _ (rd_L4 t753 x35_7) from ge781_0)
                              clear hv781_0 ge781_0
                              clear hcc781 hce781
                              have HR781_0 := Aside0.mk hi781_0
                              have HC781_0 := Aside0.mk hl781_0
                              clear hi781_0 hl781_0
                              replace p781 := eq_true p781
                              replace q781 := eq_true q781
                              go_wp2
                              go_roundg k7
                              case measure => have := HJ6.out; have := HJ17.out; have := HJ41.out; have := HJ53.out; have := HK5.out; have := HK6.out; have := HK7.out; omega
                              case rel => exact ⟨(wrap64 (x33_7 + ((rd_L4 t753 x35_7).length : Int))), (wrap64 (x35_7 + 1)), rB, rB, H', ⟨by have := HJ6.out; have := HJ17.out; have := HJ41.out; have := HJ53.out; have := HK5.out; have := HK6.out; have := HK7.out; omega⟩, ⟨upR HO_21.out⟩, ⟨upR HO_22.out⟩, ⟨upS HO_26.out⟩, ⟨upS HO_31.out⟩, (aB HB)⟩
                             ·have H' := Aside0.mk H
                              clear H
                              obtain ⟨Ao85, co85, eo85⟩ := Kd.S_slice HO_26.out
                              subst eo85
                              go_wp2
                              go_loopg [34, 36] k7 (fun kq v34 v36 w' => ∃ (x34_8 x36_8 : Int), v34 = .int .i64 x34_8 ∧ v36 = .int .i64 x36_8 ∧ Aside0 (laws_FnSteps.l5 kq l0 t741 t744 t753 t754 x28_5 t777 t778 x33_7 x34_8 x36_8 = some r) ∧ Aside0 (kq ≤ k7) ∧ Aside0 (Kd.R k32 32 w' w.heap.size (fun _ => True) (.slice Ao56 t741.length co56) t741) ∧ Aside0 (Kd.R (Kd.int .i64) 3 w' w.heap.size (fun _ => True) (.slice Ao68 t744.length co68) t744) ∧ Aside0 (Kd.S (Kd.slice 3 (Kd.int .i64)) 25 w' w.heap.size (fun k_ => some k_ ≠ ((.slice Ao68 t744.length co68) : Value).ownBlock ∧ some k_ ≠ (v779 : Value).ownBlock) (.slice Ao85 t753.length co85) t753) ∧ Aside0 (Kd.S (Kd.slice 3 (Kd.int .i64)) 25 w' w.heap.size (fun k_ => some k_ ≠ ((.slice Ao68 t744.length co68) : Value).ownBlock ∧ some k_ ≠ ((.slice Ao85 t753.length co85) : Value).ownBlock) v779 t777) ∧ Aside0 (Below w.heap.size w w'))
                              case atStart => exact ⟨(0), (0), rB, rB, H', ⟨Nat.le_refl _⟩, ⟨upR HO_21.out⟩, ⟨upR HO_22.out⟩, ⟨upS HO_26.out⟩, ⟨upS HO_31.out⟩, (aB HB)⟩
                              case round =>
                               apply Classical.byContradiction
                               intro hn_
                               letI h_ : (0 : Nat) = 1 := (hn_ (by
                                clear hn_
                                clear H'
                                try clear c67b0
                                try clear c71b0
                                try clear c82b0
                                obtain ⟨x34_8, x36_8, rfl, rfl, HA, HK8, HO_21, HO_22, HO_26, HO_31, HB⟩ := hrel
                                cases gk with
                                | zero => exact absurd HA.out (by simp [laws_FnSteps.l5])
                                | succ k8 =>
                                 have H := HA.out
                                 clear HA
                                 simp only [laws_FnSteps.l5] at H
                                 replace H := ifD H
                                 rcases H with ⟨H, -, c86b0⟩ | ⟨H, -, c86b0⟩
                                 ·replace H := zN H
                                  obtain ⟨c87b0, H⟩ := H
                                  have H' := Aside0.mk H
                                  clear H
                                  obtain ⟨Ao88, co88, eo88⟩ := Kd.S_slice HO_31.out
                                  subst eo88
                                  have p782 : 0 ≤ (x36_8 : Int) := of_decide_eq_true asmB
                                  have q782 : x36_8 < (t777.length : Int) := of_decide_eq_true asmB
                                  obtain ⟨ad782, A782_0, c782_0, e782, hx782_0, hl782_0, hi782_0⟩ := at_L4 (Kd.S_reads' HO_31.out).2.2 x36_8 p782 q782
                                  cases e782
                                  obtain ⟨ce782, hce782, hMe782, hcc782⟩ := Kd.S_get HO_31.out [] x36_8 p782 (by first | exact q782 | exact of_decide_eq_true asmB | (have e_ := (Kd.S_reads' HO_31.out).1; omega))
                                  obtain ⟨ve782_0, rfl, ge782_0⟩ := hMe782
                                  have hv782_0 := hcc782 0 _ rfl
                                  rw [Nat.add_zero, show ((Kd.slice 3 (Kd.int .i64))).sz = 1 from rfl, Nat.mul_one] at hv782_0
                                  replace hv782_0 := Option.some.inj (hv782_0.symm.trans hx782_0)
                                  rw [hv782_0] at ge782_0
                                  have HL782_0 := Aside0.mk (show Kd.R (Kd.int .i64) 3 _ _ _ _ (rd_L4 t777 x36_8) from ge782_0)
                                  clear hv782_0 ge782_0
                                  clear hcc782 hce782
                                  have HR782_0 := Aside0.mk hi782_0
                                  have HC782_0 := Aside0.mk hl782_0
                                  clear hi782_0 hl782_0
                                  replace p782 := eq_true p782
                                  replace q782 := eq_true q782
                                  go_wp2
                                  go_roundg k8
                                  case measure => have := HJ6.out; have := HJ17.out; have := HJ41.out; have := HJ53.out; have := HK5.out; have := HK6.out; have := HK7.out; have := HK8.out; omega
                                  case rel => exact ⟨(wrap64 (x34_8 + ((rd_L4 t777 x36_8).length : Int))), (wrap64 (x36_8 + 1)), rB, rB, H', ⟨by have := HJ6.out; have := HJ17.out; have := HJ41.out; have := HJ53.out; have := HK5.out; have := HK6.out; have := HK7.out; have := HK8.out; omega⟩, ⟨upR HO_21.out⟩, ⟨upR HO_22.out⟩, ⟨upS HO_26.out⟩, ⟨upS HO_31.out⟩, (aB HB)⟩
                                 ·rcases Bool.eq_false_or_eq_true t754 with rfl | rfl
                                  ·replace H := iT rfl H
                                   rcases Bool.eq_false_or_eq_true t778 with rfl | rfl
                                   ·replace H := iT rfl H
                                    replace H := ifD H
                                    rcases H with ⟨H, -, c91b0⟩ | ⟨H, -, c91b0⟩
                                    ·exact absurd (Option.some.inj H) (by rw [hT]; decide)
                                    ·have H' := Aside0.mk H
                                     clear H
                                     obtain ⟨Ao93, co93, eo93⟩ := Kd.S_slice HO_31.out
                                     subst eo93
                                     go_wp2
                                     go_roundg k8
                                     case measure => have := HJ6.out; have := HJ17.out; have := HJ41.out; have := HJ53.out; have := HK5.out; have := HK6.out; have := HK7.out; have := HK8.out; omega
                                     case rel => exact ⟨(wrap64 (x28_5 + 1)), rB, H', ⟨by have := HJ6.out; have := HJ17.out; have := HJ41.out; have := HJ53.out; have := HK5.out; have := HK6.out; have := HK7.out; have := HK8.out; omega⟩, ⟨upR HO_21.out⟩, ⟨upR HO_22.out⟩, ⟨by (with_reducible repeat (first | apply Kd.S_alloc | apply Kd.S_drewN | apply Kd.S_drew)); exact Kd.S_mono HO_26.out (fun _ hk => hk.1)⟩, (aB HB)⟩
                                   ·replace H := iF (by decide) H
                                    exact absurd (Option.some.inj H) (by rw [hT]; decide)
                                  ·replace H := iF (by decide) H
                                   exact absurd (Option.some.inj H) (by rw [hT]; decide)
                                )).elim
                               omega
                            )).elim
                           omega
                        )).elim
                       omega
                     ·replace H := bA H
                      obtain ⟨t757, A96, H⟩ := H
                      replace H := Option.bind_eq_some_iff.mp H
                      obtain ⟨⟨t760, t761, t762⟩, A970, H⟩ := H
                      have A97 := Aside0.mk A970
                      clear A970
                      replace H := Option.bind_eq_some_iff.mp H
                      obtain ⟨⟨t763, t764, t765⟩, A980, H⟩ := H
                      have A98 := Aside0.mk A980
                      clear A980
                      replace H := ifI H
                      rcases H with ⟨H, -, c99b0, c99b1⟩ | ⟨H, c99, c99b0, c99b1⟩
                      ·replace H := ifI H
                       rcases H with ⟨H, -, c100b0, c100b1⟩ | ⟨H, c100, c100b0, c100b1⟩
                       ·obtain rfl := (Option.some.inj H)
                        obtain ⟨Ao101, co101, eo101⟩ := Kd.R_slice HO_22.out
                        subst eo101
                        go_wp2_with (first | (go_at_call 18; (with_reducible refine (spec_DrawLongestCave.calls k5 _ _ l0 t757 _ ?side1 ?side2 A96.out).mono ?_); (case side1 => exact zCB HR0 HB); (case side2 => exact HC0.out); rintro e w102 ⟨v758, rfl, ho0, hb⟩; have HO759 := Aside0.mk (Kd.R_lower (Kd.R_new' ho0 (Kd.R_lt (upR HO_21.out))) (below_size (bW HB))); replace HO_21 := Aside0.mk (Kd.R_elder' (upR HO_21.out) (Kd.R_base ho0) hb); replace HO_22 := uR HO_22 hb; replace HO_26 := Aside0.mk (Kd.S_below (upS HO_26.out) hb); replace HB := uB HB hb; (try clear hb); (try clear hk); (try clear ho0); obtain ⟨Ao103, co103, eo103⟩ := Kd.R_slice HO759.out; subst eo103) | (go_at_call 19; (with_reducible refine (impl_LongestCave.calls k5 _ _ t757 t760 t761 t762 _ ?side1 ?side2 A97.out).mono ?_); (case side1 => exact zCR HO759); (case side2 => exact (Kd.R_reads' HO759.out).2.1); rintro e w104 ⟨rfl, hb⟩; replace HO_21 := uR HO_21 hb; replace HO_22 := uR HO_22 hb; replace HO_26 := Aside0.mk (Kd.S_below (upS HO_26.out) hb); replace HO759 := uR HO759 hb; replace HB := uB HB hb; (try clear hb); (try clear hk)) | (go_at_call 20; (with_reducible refine (spec_LongestCave.calls k5 _ _ t757 t763 t764 t765 _ ?side1 ?side2 A98.out).mono ?_); (case side1 => exact zCR HO759); (case side2 => exact (Kd.R_reads' HO759.out).2.1); rintro e w105 ⟨rfl, hb⟩; replace HO_21 := uR HO_21 hb; replace HO_22 := uR HO_22 hb; replace HO_26 := Aside0.mk (Kd.S_below (upS HO_26.out) hb); replace HO759 := uR HO759 hb; replace HB := uB HB hb; (try clear hb); (try clear hk)))
                        go_ret
                        exact ⟨eB, (bW HB)⟩
                       ·exact absurd (Option.some.inj H) (by rw [hT]; decide)
                      ·exact absurd (Option.some.inj H) (by rw [hT]; decide)
                    )).elim
                   omega
                 ·replace H := iF (by decide) H
                  replace H := bA H
                  obtain ⟨t783, A116, H⟩ := H
                  replace H := Option.bind_eq_some_iff.mp H
                  obtain ⟨⟨t786, t787, t788⟩, A1170, H⟩ := H
                  have A117 := Aside0.mk A1170
                  clear A1170
                  replace H := Option.bind_eq_some_iff.mp H
                  obtain ⟨⟨t789, t790, t791⟩, A1180, H⟩ := H
                  have A118 := Aside0.mk A1180
                  clear A1180
                  replace H := ifI H
                  rcases H with ⟨H, -, c119b0, c119b1⟩ | ⟨H, c119, c119b0, c119b1⟩
                  ·replace H := ifI H
                   rcases H with ⟨H, -, c120b0, c120b1⟩ | ⟨H, c120, c120b0, c120b1⟩
                   ·obtain rfl := (Option.some.inj H)
                    go_wp2_with (first | (go_at_call 18; (with_reducible refine (spec_DrawLongestCave.calls kj53 _ _ l0 t783 _ ?side1 ?side2 A116.out).mono ?_); (case side1 => exact zCB HR0 HB); (case side2 => exact HC0.out); rintro e w121 ⟨v784, rfl, ho0, hb⟩; have HO785 := Aside0.mk (Kd.R_lower (Kd.R_new' ho0 (Kd.R_lt (upR HO_21.out))) (below_size (bW HB))); replace HO_21 := Aside0.mk (Kd.R_elder' (upR HO_21.out) (Kd.R_base ho0) hb); replace HO_22 := uR HO_22 hb; replace HB := uB HB hb; (try clear hb); (try clear hk); (try clear ho0); obtain ⟨Ao122, co122, eo122⟩ := Kd.R_slice HO785.out; subst eo122) | (go_at_call 19; (with_reducible refine (impl_LongestCave.calls kj53 _ _ t783 t786 t787 t788 _ ?side1 ?side2 A117.out).mono ?_); (case side1 => exact zCR HO785); (case side2 => exact (Kd.R_reads' HO785.out).2.1); rintro e w123 ⟨rfl, hb⟩; replace HO_21 := uR HO_21 hb; replace HO_22 := uR HO_22 hb; replace HO785 := uR HO785 hb; replace HB := uB HB hb; (try clear hb); (try clear hk)) | (go_at_call 20; (with_reducible refine (spec_LongestCave.calls kj53 _ _ t783 t789 t790 t791 _ ?side1 ?side2 A118.out).mono ?_); (case side1 => exact zCR HO785); (case side2 => exact (Kd.R_reads' HO785.out).2.1); rintro e w124 ⟨rfl, hb⟩; replace HO_21 := uR HO_21 hb; replace HO_22 := uR HO_22 hb; replace HO785 := uR HO785 hb; replace HB := uB HB hb; (try clear hb); (try clear hk)))
                    go_ret
                    exact ⟨eB, (bW HB)⟩
                   ·exact absurd (Option.some.inj H) (by rw [hT]; decide)
                  ·exact absurd (Option.some.inj H) (by rw [hT]; decide)
               )).elim
              omega
           )).elim
          omega
        )).elim
       omega
    )).elim
   omega
/-- THE ONE PURE STATEMENT of laws_FnSteps: yours. -/

def laws_FnSteps.Pure : Prop := ∀ (l0 : List Int), l0.length ≤ maxLen → l0.length * 1 ≤ 140737488351232 → (∀ x ∈ l0, (Lit.int .u8 x).wf = true) → ∃ k, laws_FnSteps.f k l0 = some true
theorem laws_FnSteps.walk (P : laws_FnSteps.Pure) (a0 : Option Addr) (len0 cap0 : Nat) (z0 : List Int) (w : World) (w0 : (a0 = none ∧ len0 = 0 ∧ cap0 = 0 ∧ z0 = []) ∨ ∃ x, a0 = some x ∧ len0 ≤ cap0 ∧ cap0 ≤ maxLen ∧ z0.length = cap0 ∧ (∀ i, i < z0.length → w.cell? (x.add i) = some (.int .u8 (z0.getD i 0))) ∧ ∀ n ∈ z0, (Lit.int .u8 n).wf = true) (y0 : len0 * 1 ≤ 140737488351232) :
 Calls Tryz.prog 3 #[.slice a0 len0 cap0] w fun e w' => e = .returned (.bool true) ∧ Below w.heap.size w w' := by
 obtain ⟨l0, rfl, hr0, hm0, hw0, hc0⟩ := ReadsInt.ofRowC w0
 obtain ⟨k, h⟩ := P l0 hm0 y0 hw0
 refine (laws_FnSteps.calls k _ _ l0 true w (Kd.C_of_reads (d := (0 : Int)) (h1 := fun _ => rfl) hr0) hc0 h rfl).mono ?_
 rintro e w' ⟨rfl, hd⟩
 exact ⟨rfl, hd⟩

end Go.Proofs.YtmfidodcpbochaaGreat.QFnSteps
