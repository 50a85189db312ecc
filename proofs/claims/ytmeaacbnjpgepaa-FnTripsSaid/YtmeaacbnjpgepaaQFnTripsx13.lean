/- Contracts of Go functions that FnTrips reaches: the call computes what the plain function says. No condition. -/
import Derived.Test.YtmeaacbnjpgepaaQFnTripsx0
import Derived.Test.YtmeaacbnjpgepaaQFnTripsx1
import Derived.Test.YtmeaacbnjpgepaaQFnTripsx2
import Derived.Test.YtmeaacbnjpgepaaQFnTripsx3
import Derived.Test.YtmeaacbnjpgepaaQFnTripsx5
import Derived.Test.YtmeaacbnjpgepaaQFnTripsx6
import Derived.Test.YtmeaacbnjpgepaaQFnTripsx8
import Derived.Test.YtmeaacbnjpgepaaQFnTripsx9
import Derived.Test.YtmeaacbnjpgepaaQFnTripsx10
import Derived.Test.YtmeaacbnjpgepaaQFnTripsx11
import Derived.Test.YtmeaacbnjpgepaaQFnTripsx12
namespace Go.Proofs.Ytmeaacbnjpgepaa.QFnTrips
open Go.RowKit Go.Proofs.YtmeaacbnjpgepaaW.PrintWords Go.Proofs.YtmeaacbnjpgepaaW.PrintLast Go.Proofs.YtmeaacbnjpgepaaW.PrintMore
attribute [local go_sem] max2_int min2_int max_two min_two max_three min_three max_four min_four   -- for this text's walks alone
set_option linter.unusedVariables false
set_option linter.unusedSimpArgs false

attribute [local go_sem high] eqA25
/-! ### laws_FnTrips: function 10 -/
mutual
def laws_FnTrips.j0 : Nat → List Int → Bool → Bool → Int → Int → Int → Int → Int → Int → Int → Int → Int → Int → Int → Int → Option (Bool)
 | 0, _, _, _, _, _, _, _, _, _, _, _, _, _, _, _ => none
 | k + 1, x0, x6, x67, x403000, x403001, x403002, x403003, x403004, x404000, x404001, x411000, x411001, x411002, x411003, x411004 => if x67 = true then (some false) else (if x6 = true then ((impl_NextKinds.f k x403000 x403001 x403002 x403003 x403004).bind fun bt420 => ((impl_IsTrip.f k x411000 x411001 x411002 x411003 x411004).bind fun t424 => (if t424 = true then (if bt420.2 = true then ((laws_vHas.f k bt420.1 x404000).bind fun t425 => (if t425 = true then (if x411004 < x403004 then (laws_FnTrips.j1 k x0 true x403000 x403001 x403002 x403003 x403004 x404000 x404001 x411000 x411001 x411002 x411003 x411004) else (if x411000 = 4 then (laws_FnTrips.j1 k x0 (x411002 != 0) x403000 x403001 x403002 x403003 x403004 x404000 x404001 x411000 x411001 x411002 x411003 x411004) else (laws_FnTrips.j1 k x0 false x403000 x403001 x403002 x403003 x403004 x404000 x404001 x411000 x411001 x411002 x411003 x411004))) else (laws_FnTrips.j1 k x0 true x403000 x403001 x403002 x403003 x403004 x404000 x404001 x411000 x411001 x411002 x411003 x411004))) else (laws_FnTrips.j1 k x0 true x403000 x403001 x403002 x403003 x403004 x404000 x404001 x411000 x411001 x411002 x411003 x411004)) else (laws_FnTrips.j1 k x0 true x403000 x403001 x403002 x403003 x403004 x404000 x404001 x411000 x411001 x411002 x411003 x411004)))) else (laws_FnTrips.j2 k x0))
def laws_FnTrips.j2 : Nat → List Int → Option (Bool)
 | 0, _ => none
 | k + 1, x0 => (spec_DrawRunTrip.f k x0).bind fun bt426 => ((impl_RunTrip.f k bt426.1 bt426.2.1 bt426.2.2.1 bt426.2.2.2.1 bt426.2.2.2.2.1 bt426.2.2.2.2.2).bind fun bt435 => ((spec_RunTrip.f k bt426.1 bt426.2.1 bt426.2.2.1 bt426.2.2.2.1 bt426.2.2.2.2.1 bt426.2.2.2.2.2).bind fun bt443 => (if (!(bt435.1 == bt443.1) || (!(bt435.2.1 == bt443.2.1) || (!(bt435.2.2.1 == bt443.2.2.1) || (!(bt435.2.2.2.1 == bt443.2.2.2.1) || (!(bt435.2.2.2.2.1 == bt443.2.2.2.2.1)))))) = true then (laws_FnTrips.j3 k x0 bt426.2.2.2.2.2 bt435.2.2.2.2.2.1 bt435.2.2.2.2.2.2 true bt426.1 bt426.2.1 bt426.2.2.1 bt426.2.2.2.1 bt426.2.2.2.2.1 bt435.1 bt435.2.1 bt435.2.2.1 bt435.2.2.2.1 bt435.2.2.2.2.1) else (if bt435.2.2.2.2.2.1 = bt443.2.2.2.2.2.1 then (laws_FnTrips.j3 k x0 bt426.2.2.2.2.2 bt435.2.2.2.2.2.1 bt435.2.2.2.2.2.2 (bt435.2.2.2.2.2.2 != bt443.2.2.2.2.2.2) bt426.1 bt426.2.1 bt426.2.2.1 bt426.2.2.2.1 bt426.2.2.2.2.1 bt435.1 bt435.2.1 bt435.2.2.1 bt435.2.2.2.1 bt435.2.2.2.2.1) else (laws_FnTrips.j3 k x0 bt426.2.2.2.2.2 bt435.2.2.2.2.2.1 bt435.2.2.2.2.2.2 true bt426.1 bt426.2.1 bt426.2.2.1 bt426.2.2.2.1 bt426.2.2.2.2.1 bt435.1 bt435.2.1 bt435.2.2.1 bt435.2.2.2.1 bt435.2.2.2.2.1)))))
def laws_FnTrips.j3 : Nat → List Int → List (S49) → Int → Bool → Bool → Int → Int → Int → Int → Int → Int → Int → Int → Int → Int → Option (Bool)
 | 0, _, _, _, _, _, _, _, _, _, _, _, _, _, _, _ => none
 | k + 1, x0, x12, x14, x15, x154, x435000, x435001, x435002, x435003, x435004, x443000, x443001, x443002, x443003, x443004 => if x154 = true then (some false) else (if x15 = true then (laws_FnTrips.l0 k x0 x12 x14 0 0 x443000 x443001 x443002 x443003 x443004 x435000 x435001 x435002 x435003 x435004) else (laws_FnTrips.j5 k x0))
def laws_FnTrips.j5 : Nat → List Int → Option (Bool)
 | 0, _ => none
 | k + 1, x0 => (spec_DrawNextKinds.f k x0).bind fun bt460 => ((impl_NextKinds.f k bt460.1 bt460.2.1 bt460.2.2.1 bt460.2.2.2.1 bt460.2.2.2.2).bind fun bt466 => ((spec_NextKinds.f k bt460.1 bt460.2.1 bt460.2.2.1 bt460.2.2.2.1 bt460.2.2.2.2).bind fun bt470 => (if (bt466.2 != bt470.2) = true then (laws_FnTrips.j6 k x0 true) else ((laws_vInts.f k bt466.1 bt470.1).bind fun t474 => (laws_FnTrips.j6 k x0 (!t474))))))
def laws_FnTrips.j6 : Nat → List Int → Bool → Option (Bool)
 | 0, _, _ => none
 | k + 1, x0, x204 => if x204 = true then (some false) else ((spec_DrawTimeLeft.f k x0).bind fun bt475 => ((impl_TimeLeft.f k bt475.1 bt475.2.1 bt475.2.2.1 bt475.2.2.2.1 bt475.2.2.2.2).bind fun bt481 => ((spec_TimeLeft.f k bt475.1 bt475.2.1 bt475.2.2.1 bt475.2.2.2.1 bt475.2.2.2.2).bind fun bt483 => (if bt481.1 = bt483.1 then (if (bt481.2 == bt483.2) = true then (some (decide (bt481.1 ≥ 0))) else (some false)) else (some false)))))
def laws_FnTrips.l0 : Nat → List Int → List (S49) → Int → Int → Int → Int → Int → Int → Int → Int → Int → Int → Int → Int → Int → Option (Bool)
 | 0, _, _, _, _, _, _, _, _, _, _, _, _, _, _, _ => none
 | k + 1, x0, x12, x14, x20, x21, x443000, x443001, x443002, x443003, x443004, x452000, x452001, x452002, x452003, x452004 => if x21 < (x12.length : Int) then (if 0 ≤ x21 then ((impl_StepTrip.f k x452000 x452001 x452002 x452003 x452004 ((rd_T49 x12 x21).f0) ((rd_T49 x12 x21).f1)).bind fun bt453 => (if bt453.2.2.2.2.2 = true then (laws_FnTrips.l0 k x0 x12 x14 (wrap64 (x20 + 1)) (wrap64 (x21 + 1)) x443000 x443001 x443002 x443003 x443004 bt453.1 bt453.2.1 bt453.2.2.1 bt453.2.2.2.1 bt453.2.2.2.2.1) else (laws_FnTrips.l0 k x0 x12 x14 x20 (wrap64 (x21 + 1)) x443000 x443001 x443002 x443003 x443004 x452000 x452001 x452002 x452003 x452004))) else (none)) else (if (!(x452000 == x443000) || (!(x452001 == x443001) || (!(x452002 == x443002) || (!(x452003 == x443003) || (!(x452004 == x443004)))))) = true then (some false) else (if x20 = x14 then (laws_FnTrips.j5 k x0) else (some false)))
def laws_FnTrips.j1 : Nat → List Int → Bool → Int → Int → Int → Int → Int → Int → Int → Int → Int → Int → Int → Int → Option (Bool)
 | 0, _, _, _, _, _, _, _, _, _, _, _, _, _, _ => none
 | k + 1, x0, x104, x403000, x403001, x403002, x403003, x403004, x404000, x404001, x411000, x411001, x411002, x411003, x411004 => if x104 = true then (some false) else (if x403000 ≥ 4 then (if x404000 = 3 then (if x403000 = 1 then (if x411000 = 5 then (some false) else (laws_FnTrips.j2 k x0)) else (laws_FnTrips.j2 k x0)) else (some false)) else (if x403000 = 1 then (if x411000 = 5 then (some false) else (laws_FnTrips.j2 k x0)) else (laws_FnTrips.j2 k x0)))
end
def laws_FnTrips.f (k : Nat) (l0 : List Int) : Option (Bool) := (laws_vBig.f l0).bind fun t394 => (if t394 = true then (some true) else ((spec_DrawStepTrip.f k l0).bind fun bt395 => ((impl_StepTrip.f k bt395.1 bt395.2.1 bt395.2.2.1 bt395.2.2.2.1 bt395.2.2.2.2.1 bt395.2.2.2.2.2.1 bt395.2.2.2.2.2.2).bind fun bt404 => ((spec_StepTrip.f k bt395.1 bt395.2.1 bt395.2.2.1 bt395.2.2.2.1 bt395.2.2.2.2.1 bt395.2.2.2.2.2.1 bt395.2.2.2.2.2.2).bind fun bt411 => (if (!(bt404.1 == bt411.1) || (!(bt404.2.1 == bt411.2.1) || (!(bt404.2.2.1 == bt411.2.2.1) || (!(bt404.2.2.2.1 == bt411.2.2.2.1) || (!(bt404.2.2.2.2.1 == bt411.2.2.2.2.1)))))) = true then (laws_FnTrips.j0 k l0 bt404.2.2.2.2.2 true bt395.1 bt395.2.1 bt395.2.2.1 bt395.2.2.2.1 bt395.2.2.2.2.1 bt395.2.2.2.2.2.1 bt395.2.2.2.2.2.2 bt404.1 bt404.2.1 bt404.2.2.1 bt404.2.2.2.1 bt404.2.2.2.2.1) else (if (bt404.2.2.2.2.2 != bt411.2.2.2.2.2) = true then (laws_FnTrips.j0 k l0 bt404.2.2.2.2.2 true bt395.1 bt395.2.1 bt395.2.2.1 bt395.2.2.2.1 bt395.2.2.2.2.1 bt395.2.2.2.2.2.1 bt395.2.2.2.2.2.2 bt404.1 bt404.2.1 bt404.2.2.1 bt404.2.2.2.1 bt404.2.2.2.2.1) else ((impl_IsTrip.f k bt395.1 bt395.2.1 bt395.2.2.1 bt395.2.2.2.1 bt395.2.2.2.2.1).bind fun t418 => ((spec_IsTrip.f k bt395.1 bt395.2.1 bt395.2.2.1 bt395.2.2.2.1 bt395.2.2.2.2.1).bind fun t419 => (laws_FnTrips.j0 k l0 bt404.2.2.2.2.2 (t418 != t419) bt395.1 bt395.2.1 bt395.2.2.1 bt395.2.2.2.1 bt395.2.2.2.2.1 bt395.2.2.2.2.2.1 bt395.2.2.2.2.2.2 bt404.1 bt404.2.1 bt404.2.2.1 bt404.2.2.2.1 bt404.2.2.2.2.1)))))))))
theorem laws_FnTrips.mono_l : ∀ k, (∀ y0 y1 y2 y3 y4 y5 y6 y7 y8 y9 y10 y11 y12 y13 y14, LeO (laws_FnTrips.j0 k y0 y1 y2 y3 y4 y5 y6 y7 y8 y9 y10 y11 y12 y13 y14) (laws_FnTrips.j0 (k + 1) y0 y1 y2 y3 y4 y5 y6 y7 y8 y9 y10 y11 y12 y13 y14)) ∧ (∀ y0, LeO (laws_FnTrips.j2 k y0) (laws_FnTrips.j2 (k + 1) y0)) ∧ (∀ y0 y1 y2 y3 y4 y5 y6 y7 y8 y9 y10 y11 y12 y13 y14, LeO (laws_FnTrips.j3 k y0 y1 y2 y3 y4 y5 y6 y7 y8 y9 y10 y11 y12 y13 y14) (laws_FnTrips.j3 (k + 1) y0 y1 y2 y3 y4 y5 y6 y7 y8 y9 y10 y11 y12 y13 y14)) ∧ (∀ y0, LeO (laws_FnTrips.j5 k y0) (laws_FnTrips.j5 (k + 1) y0)) ∧ (∀ y0 y1, LeO (laws_FnTrips.j6 k y0 y1) (laws_FnTrips.j6 (k + 1) y0 y1)) ∧ (∀ y0 y1 y2 y3 y4 y5 y6 y7 y8 y9 y10 y11 y12 y13 y14, LeO (laws_FnTrips.l0 k y0 y1 y2 y3 y4 y5 y6 y7 y8 y9 y10 y11 y12 y13 y14) (laws_FnTrips.l0 (k + 1) y0 y1 y2 y3 y4 y5 y6 y7 y8 y9 y10 y11 y12 y13 y14)) ∧ (∀ y0 y1 y2 y3 y4 y5 y6 y7 y8 y9 y10 y11 y12 y13, LeO (laws_FnTrips.j1 k y0 y1 y2 y3 y4 y5 y6 y7 y8 y9 y10 y11 y12 y13) (laws_FnTrips.j1 (k + 1) y0 y1 y2 y3 y4 y5 y6 y7 y8 y9 y10 y11 y12 y13))
 | 0 => ⟨fun _ _ _ _ _ _ _ _ _ _ _ _ _ _ _ r h => by simp [laws_FnTrips.j0] at h, fun _ r h => by simp [laws_FnTrips.j2] at h, fun _ _ _ _ _ _ _ _ _ _ _ _ _ _ _ r h => by simp [laws_FnTrips.j3] at h, fun _ r h => by simp [laws_FnTrips.j5] at h, fun _ _ r h => by simp [laws_FnTrips.j6] at h, fun _ _ _ _ _ _ _ _ _ _ _ _ _ _ _ r h => by simp [laws_FnTrips.l0] at h, fun _ _ _ _ _ _ _ _ _ _ _ _ _ _ r h => by simp [laws_FnTrips.j1] at h⟩
 | k + 1 => by
  obtain ⟨ih0, ih1, ih2, ih3, ih4, ih5, ih6⟩ := laws_FnTrips.mono_l k
  refine ⟨?_, ?_, ?_, ?_, ?_, ?_, ?_⟩
  ·intro y0 y1 y2 y3 y4 y5 y6 y7 y8 y9 y10 y11 y12 y13 y14
   unfold laws_FnTrips.j0
   repeat' with_reducible first | apply ih0 | apply ih1 | apply ih2 | apply ih3 | apply ih4 | apply ih5 | apply ih6 | apply impl_IsTrip.mono | apply impl_NextKinds.mono | apply impl_RunTrip.mono | apply impl_StepTrip.mono | apply impl_TimeLeft.mono | apply laws_vHas.mono | apply laws_vInts.mono | apply spec_DrawNextKinds.mono | apply spec_DrawRunTrip.mono | apply spec_DrawStepTrip.mono | apply spec_DrawTimeLeft.mono | apply spec_IsTrip.mono | apply spec_NextKinds.mono | apply spec_RunTrip.mono | apply spec_StepTrip.mono | apply spec_TimeLeft.mono | exact LeO.refl _ | exact LeO.none _ | refine LeO.ite ?_ ?_ | refine LeO.bind ?_ (fun _ => ?_)
  ·intro y0
   unfold laws_FnTrips.j2
   repeat' with_reducible first | apply ih0 | apply ih1 | apply ih2 | apply ih3 | apply ih4 | apply ih5 | apply ih6 | apply impl_IsTrip.mono | apply impl_NextKinds.mono | apply impl_RunTrip.mono | apply impl_StepTrip.mono | apply impl_TimeLeft.mono | apply laws_vHas.mono | apply laws_vInts.mono | apply spec_DrawNextKinds.mono | apply spec_DrawRunTrip.mono | apply spec_DrawStepTrip.mono | apply spec_DrawTimeLeft.mono | apply spec_IsTrip.mono | apply spec_NextKinds.mono | apply spec_RunTrip.mono | apply spec_StepTrip.mono | apply spec_TimeLeft.mono | exact LeO.refl _ | exact LeO.none _ | refine LeO.ite ?_ ?_ | refine LeO.bind ?_ (fun _ => ?_)
  ·intro y0 y1 y2 y3 y4 y5 y6 y7 y8 y9 y10 y11 y12 y13 y14
   unfold laws_FnTrips.j3
   repeat' with_reducible first | apply ih0 | apply ih1 | apply ih2 | apply ih3 | apply ih4 | apply ih5 | apply ih6 | apply impl_IsTrip.mono | apply impl_NextKinds.mono | apply impl_RunTrip.mono | apply impl_StepTrip.mono | apply impl_TimeLeft.mono | apply laws_vHas.mono | apply laws_vInts.mono | apply spec_DrawNextKinds.mono | apply spec_DrawRunTrip.mono | apply spec_DrawStepTrip.mono | apply spec_DrawTimeLeft.mono | apply spec_IsTrip.mono | apply spec_NextKinds.mono | apply spec_RunTrip.mono | apply spec_StepTrip.mono | apply spec_TimeLeft.mono | exact LeO.refl _ | exact LeO.none _ | refine LeO.ite ?_ ?_ | refine LeO.bind ?_ (fun _ => ?_)
  ·intro y0
   unfold laws_FnTrips.j5
   repeat' with_reducible first | apply ih0 | apply ih1 | apply ih2 | apply ih3 | apply ih4 | apply ih5 | apply ih6 | apply impl_IsTrip.mono | apply impl_NextKinds.mono | apply impl_RunTrip.mono | apply impl_StepTrip.mono | apply impl_TimeLeft.mono | apply laws_vHas.mono | apply laws_vInts.mono | apply spec_DrawNextKinds.mono | apply spec_DrawRunTrip.mono | apply spec_DrawStepTrip.mono | apply spec_DrawTimeLeft.mono | apply spec_IsTrip.mono | apply spec_NextKinds.mono | apply spec_RunTrip.mono | apply spec_StepTrip.mono | apply spec_TimeLeft.mono | exact LeO.refl _ | exact LeO.none _ | refine LeO.ite ?_ ?_ | refine LeO.bind ?_ (fun _ => ?_)
  ·intro y0 y1
   unfold laws_FnTrips.j6
   repeat' with_reducible first | apply ih0 | apply ih1 | apply ih2 | apply ih3 | apply ih4 | apply ih5 | apply ih6 | apply impl_IsTrip.mono | apply impl_NextKinds.mono | apply impl_RunTrip.mono | apply impl_StepTrip.mono | apply impl_TimeLeft.mono | apply laws_vHas.mono | apply laws_vInts.mono | apply spec_DrawNextKinds.mono | apply spec_DrawRunTrip.mono | apply spec_DrawStepTrip.mono | apply spec_DrawTimeLeft.mono | apply spec_IsTrip.mono | apply spec_NextKinds.mono | apply spec_RunTrip.mono | apply spec_StepTrip.mono | apply spec_TimeLeft.mono | exact LeO.refl _ | exact LeO.none _ | refine LeO.ite ?_ ?_ | refine LeO.bind ?_ (fun _ => ?_)
  ·intro y0 y1 y2 y3 y4 y5 y6 y7 y8 y9 y10 y11 y12 y13 y14
   unfold laws_FnTrips.l0
   repeat' with_reducible first | apply ih0 | apply ih1 | apply ih2 | apply ih3 | apply ih4 | apply ih5 | apply ih6 | apply impl_IsTrip.mono | apply impl_NextKinds.mono | apply impl_RunTrip.mono | apply impl_StepTrip.mono | apply impl_TimeLeft.mono | apply laws_vHas.mono | apply laws_vInts.mono | apply spec_DrawNextKinds.mono | apply spec_DrawRunTrip.mono | apply spec_DrawStepTrip.mono | apply spec_DrawTimeLeft.mono | apply spec_IsTrip.mono | apply spec_NextKinds.mono | apply spec_RunTrip.mono | apply spec_StepTrip.mono | apply spec_TimeLeft.mono | exact LeO.refl _ | exact LeO.none _ | refine LeO.ite ?_ ?_ | refine LeO.bind ?_ (fun _ => ?_)
  ·intro y0 y1 y2 y3 y4 y5 y6 y7 y8 y9 y10 y11 y12 y13
   unfold laws_FnTrips.j1
   repeat' with_reducible first | apply ih0 | apply ih1 | apply ih2 | apply ih3 | apply ih4 | apply ih5 | apply ih6 | apply impl_IsTrip.mono | apply impl_NextKinds.mono | apply impl_RunTrip.mono | apply impl_StepTrip.mono | apply impl_TimeLeft.mono | apply laws_vHas.mono | apply laws_vInts.mono | apply spec_DrawNextKinds.mono | apply spec_DrawRunTrip.mono | apply spec_DrawStepTrip.mono | apply spec_DrawTimeLeft.mono | apply spec_IsTrip.mono | apply spec_NextKinds.mono | apply spec_RunTrip.mono | apply spec_StepTrip.mono | apply spec_TimeLeft.mono | exact LeO.refl _ | exact LeO.none _ | refine LeO.ite ?_ ?_ | refine LeO.bind ?_ (fun _ => ?_)
theorem laws_FnTrips.mono : ∀ a0 k, LeO (laws_FnTrips.f k a0) (laws_FnTrips.f (k + 1) a0) := by
 intro a0 k
 obtain ⟨ih0, ih1, ih2, ih3, ih4, ih5, ih6⟩ := laws_FnTrips.mono_l k
 unfold laws_FnTrips.f
 repeat' with_reducible first | apply ih0 | apply ih1 | apply ih2 | apply ih3 | apply ih4 | apply ih5 | apply ih6 | apply impl_IsTrip.mono | apply impl_NextKinds.mono | apply impl_RunTrip.mono | apply impl_StepTrip.mono | apply impl_TimeLeft.mono | apply laws_vHas.mono | apply laws_vInts.mono | apply spec_DrawNextKinds.mono | apply spec_DrawRunTrip.mono | apply spec_DrawStepTrip.mono | apply spec_DrawTimeLeft.mono | apply spec_IsTrip.mono | apply spec_NextKinds.mono | apply spec_RunTrip.mono | apply spec_StepTrip.mono | apply spec_TimeLeft.mono | exact LeO.refl _ | exact LeO.none _ | refine LeO.ite ?_ ?_ | refine LeO.bind ?_ (fun _ => ?_)
def laws_FnTrips.T6 : Bool × List (List Nat × List Nat) := (true, [([], []), ([], []), ([0, 1], [0, 1]), ([2], [2]), ([3], [3]), ([3], [3]), ([4, 5, 3], [3, 4, 5]), ([3, 6], [3, 6]), ([7, 3], [7]), ([8], [8]), ([9, 8, 8], [8, 9]), ([8], [8]), ([11, 10, 8], [8, 11]), ([10, 12, 8], [8, 10, 12]), ([8, 13], [8, 13])])
def laws_FnTrips.B6 : List Nat := [0, 0, 3, 7, 15, 15, 63, 127, 255, 511, 1023, 511, 4095, 8191, 16383]
theorem laws_FnTrips.tab6 : rtab .any (opsOf Try.f10 6) = laws_FnTrips.T6 := by kernel_rfl
theorem laws_FnTrips.bits6 : waitsOk laws_FnTrips.T6.2 laws_FnTrips.B6 = true := by kernel_rfl
def laws_FnTrips.T24 : Bool × List (List Nat × List Nat) := (true, [([], []), ([], []), ([], []), ([1, 2], [1, 2]), ([3], [3]), ([0, 4], [0, 4]), ([5], [5]), ([6], [6]), ([6], [6]), ([], []), ([9, 7, 5, 0, 1, 2, 3, 4, 5, 6, 7, 9], [7, 9]), ([8, 10, 0, 1, 2, 3, 4, 5, 6, 7, 8, 9, 10], [8])])
def laws_FnTrips.B24 : List Nat := [0, 0, 0, 6, 14, 31, 63, 127, 127, 0, 767, 2047]
theorem laws_FnTrips.tab24 : rtab .any (opsOf Try.f10 24) = laws_FnTrips.T24 := by kernel_rfl
theorem laws_FnTrips.bits24 : waitsOk laws_FnTrips.T24.2 laws_FnTrips.B24 = true := by kernel_rfl
set_option maxHeartbeats 8000000 in
set_option maxRecDepth 100000 in
theorem laws_FnTrips.calls (k : Nat) (A0 : Option Addr) (c0 : Nat) (l0 : List Int) (r : Bool) (w : World) (hr0 : Kd.C (Kd.int .u8) w A0 l0.length l0) (hc0 : l0.length ≤ c0) (h : laws_FnTrips.f k l0 = some r) (hT : r = true) :
  Calls Try.prog 10 #[.slice A0 l0.length c0] w fun e w' => e = .returned (.bool r) ∧ Below w.heap.size w w' := by
 have hu25 := Try.underlying25
 have hu49 := Try.underlying49
 have HR0 := Aside0.mk hr0
 have HC0 := Aside0.mk hc0
 clear hr0 hc0
 have HB := Aside0.mk (Below.refl w.heap.size w)
 have H := h
 clear h
 unfold laws_FnTrips.f at H
 replace H := bA H
 obtain ⟨t394, A2, H⟩ := H
 rcases Bool.eq_false_or_eq_true t394 with rfl | rfl
 ·replace H := iT rfl H
  obtain rfl := (Option.some.inj H)
  go_enter Try.func10, Try.ntmps10
  go_wp2_with (first | ((with_reducible refine gC 38 ?_); refine lA (some 35) Try.func38 (laws_vBig.calls _ _ l0 true _ ?side1 ?side2 A2.out) ?_; (case side1 => repeat (first | exact HR0.out | (with_reducible refine Kd.C_alloc ?_ _) | (with_reducible refine Kd.C_drewN ?_ _) | (with_reducible refine Kd.C_drew ?_))); (case side2 => exact HC0.out); rintro _ ⟨nd, rfl⟩))
  go_ret
  exact ⟨eB, (bW HB)⟩
 ·replace H := iF (by decide) H
  replace H := Option.bind_eq_some_iff.mp H
  obtain ⟨⟨t395, t396, t397, t398, t399, t400, t401⟩, A40, H⟩ := H
  replace H : ((impl_StepTrip.f k t395 t396 t397 t398 t399 t400 t401).bind fun bt404 => ((spec_StepTrip.f k t395 t396 t397 t398 t399 t400 t401).bind fun bt411 => (if (!(bt404.1 == bt411.1) || (!(bt404.2.1 == bt411.2.1) || (!(bt404.2.2.1 == bt411.2.2.1) || (!(bt404.2.2.2.1 == bt411.2.2.2.1) || (!(bt404.2.2.2.2.1 == bt411.2.2.2.2.1)))))) = true then (laws_FnTrips.j0 k l0 bt404.2.2.2.2.2 true t395 t396 t397 t398 t399 t400 t401 bt404.1 bt404.2.1 bt404.2.2.1 bt404.2.2.2.1 bt404.2.2.2.2.1) else (if (bt404.2.2.2.2.2 != bt411.2.2.2.2.2) = true then (laws_FnTrips.j0 k l0 bt404.2.2.2.2.2 true t395 t396 t397 t398 t399 t400 t401 bt404.1 bt404.2.1 bt404.2.2.1 bt404.2.2.2.1 bt404.2.2.2.2.1) else ((impl_IsTrip.f k t395 t396 t397 t398 t399).bind fun t418 => ((spec_IsTrip.f k t395 t396 t397 t398 t399).bind fun t419 => (laws_FnTrips.j0 k l0 bt404.2.2.2.2.2 (t418 != t419) t395 t396 t397 t398 t399 t400 t401 bt404.1 bt404.2.1 bt404.2.2.1 bt404.2.2.2.1 bt404.2.2.2.2.1))))))) = some r := H
  have A4 := Aside0.mk A40
  clear A40
  replace H := Option.bind_eq_some_iff.mp H
  obtain ⟨⟨t404, t405, t406, t407, t408, t409⟩, A50, H⟩ := H
  replace H : ((spec_StepTrip.f k t395 t396 t397 t398 t399 t400 t401).bind fun bt411 => (if (!(t404 == bt411.1) || (!(t405 == bt411.2.1) || (!(t406 == bt411.2.2.1) || (!(t407 == bt411.2.2.2.1) || (!(t408 == bt411.2.2.2.2.1)))))) = true then (laws_FnTrips.j0 k l0 t409 true t395 t396 t397 t398 t399 t400 t401 t404 t405 t406 t407 t408) else (if (t409 != bt411.2.2.2.2.2) = true then (laws_FnTrips.j0 k l0 t409 true t395 t396 t397 t398 t399 t400 t401 t404 t405 t406 t407 t408) else ((impl_IsTrip.f k t395 t396 t397 t398 t399).bind fun t418 => ((spec_IsTrip.f k t395 t396 t397 t398 t399).bind fun t419 => (laws_FnTrips.j0 k l0 t409 (t418 != t419) t395 t396 t397 t398 t399 t400 t401 t404 t405 t406 t407 t408)))))) = some r := H
  have A5 := Aside0.mk A50
  clear A50
  replace H := Option.bind_eq_some_iff.mp H
  obtain ⟨⟨t411, t412, t413, t414, t415, t416⟩, A60, H⟩ := H
  replace H : (if (!(t404 == t411) || (!(t405 == t412) || (!(t406 == t413) || (!(t407 == t414) || (!(t408 == t415)))))) = true then (laws_FnTrips.j0 k l0 t409 true t395 t396 t397 t398 t399 t400 t401 t404 t405 t406 t407 t408) else (if (t409 != t416) = true then (laws_FnTrips.j0 k l0 t409 true t395 t396 t397 t398 t399 t400 t401 t404 t405 t406 t407 t408) else ((impl_IsTrip.f k t395 t396 t397 t398 t399).bind fun t418 => ((spec_IsTrip.f k t395 t396 t397 t398 t399).bind fun t419 => (laws_FnTrips.j0 k l0 t409 (t418 != t419) t395 t396 t397 t398 t399 t400 t401 t404 t405 t406 t407 t408))))) = some r := H
  have A6 := Aside0.mk A60
  clear A60
  have HC7 := Aside0.mk H
  clear H
  go_enter Try.func10, Try.ntmps10
  go_upto_region 6 with (first | ((with_reducible refine gC 38 ?_); refine lA (some 35) Try.func38 (laws_vBig.calls _ _ l0 false _ ?side1 ?side2 A2.out) ?_; (case side1 => repeat (first | exact HR0.out | (with_reducible refine Kd.C_alloc ?_ _) | (with_reducible refine Kd.C_drewN ?_ _) | (with_reducible refine Kd.C_drew ?_))); (case side2 => exact HC0.out); rintro _ ⟨nd, rfl⟩) | ((with_reducible refine gC 39 ?_); refine lA (some 38) Try.func39 (spec_DrawStepTrip.calls k _ _ l0 t395 t396 t397 t398 t399 t400 t401 _ ?side1 ?side2 A4.out) ?_; (case side1 => repeat (first | exact HR0.out | (with_reducible refine Kd.C_alloc ?_ _) | (with_reducible refine Kd.C_drewN ?_ _) | (with_reducible refine Kd.C_drew ?_))); (case side2 => exact HC0.out); intro w8 hb; replace HB := uB HB hb; (try clear hb); (try clear hk)) | ((with_reducible refine gD 3 ?_); refine bxE 3 25 #[.int .i64 0, .int .i64 0, .int .i64 0, .int .i64 0, .int .i64 0] fun gb402 w9 hg hbox hb => ?_; have BK402 := Aside0.mk hbox; have GE402 := gB HB hg; replace HB := uB HB hb; clear hb hbox hg) | ((with_reducible refine gD 4 ?_); refine bxE 4 49 #[.int .i64 0, .int .i64 0] fun gb403 w10 hg hbox hb => ?_; have BK403 := Aside0.mk hbox; have GE403 := gB HB hg; have ⟨NB402_403, NB403_402⟩ := nB BK402 hg; replace BK402 := uK BK402 hb; replace HB := uB HB hb; clear hb hbox hg; have hnb11 := NB402_403.out; have hnc11 := NB403_402.out; have ⟨hcz12_0, hcz12_1, hcz12_2, hcz12_3, hcz12_4, hfz12_0⟩ := cz5 BK402; have ⟨hcz13_0, hcz13_1, hfz13_0⟩ := cz2 BK403) | ((with_reducible refine gC 31 ?_); refine lA (some 44) Try.func31 (impl_StepTrip.calls k t395 t396 t397 t398 t399 t400 t401 t404 t405 t406 t407 t408 t409 _ A5.out) ?_; intro w14 hb; replace BK402 := uQ BK402 hb #[.int .i64 t395, .int .i64 t396, .int .i64 t397, .int .i64 t398, .int .i64 t399]; replace BK403 := uQ BK403 hb #[.int .i64 t400, .int .i64 t401]; replace HB := uB HB hb; (try clear hb); (try clear hk)) | ((with_reducible refine gD 5 ?_); refine bxE 5 25 #[.int .i64 0, .int .i64 0, .int .i64 0, .int .i64 0, .int .i64 0] fun gb410 w15 hg hbox hb => ?_; have BK410 := Aside0.mk hbox; have GE410 := gB HB hg; have ⟨NB402_410, NB410_402⟩ := nB BK402 hg; have ⟨NB403_410, NB410_403⟩ := nB BK403 hg; replace BK402 := uK BK402 hb; replace BK403 := uK BK403 hb; replace HB := uB HB hb; clear hb hbox hg; have hnb16 := NB410_402.out; have hnc16 := NB402_410.out; have hnb17 := NB410_403.out; have hnc17 := NB403_410.out; have ⟨hcz18_0, hcz18_1, hcz18_2, hcz18_3, hcz18_4, hfz18_0⟩ := cz5 BK410; have ⟨hcz19_0, hcz19_1, hcz19_2, hcz19_3, hcz19_4, hfz19_0⟩ := cz5 BK402; have ⟨hcz20_0, hcz20_1, hfz20_0⟩ := cz2 BK403) | ((with_reducible refine gC 29 ?_); refine lA (some 50) Try.func29 (spec_StepTrip.calls k t395 t396 t397 t398 t399 t400 t401 t411 t412 t413 t414 t415 t416 _ A6.out) ?_; intro w21 hb; replace BK402 := uQ BK402 hb #[.int .i64 t395, .int .i64 t396, .int .i64 t397, .int .i64 t398, .int .i64 t399]; replace BK403 := uQ BK403 hb #[.int .i64 t400, .int .i64 t401]; replace BK410 := uQ BK410 hb #[.int .i64 t404, .int .i64 t405, .int .i64 t406, .int .i64 t407, .int .i64 t408]; replace HB := uB HB hb; (try clear hb); (try clear hk)) | ((with_reducible refine gD 7 ?_); refine bxE 7 25 #[.int .i64 0, .int .i64 0, .int .i64 0, .int .i64 0, .int .i64 0] fun gb417 w22 hg hbox hb => ?_; have BK417 := Aside0.mk hbox; have GE417 := gB HB hg; have ⟨NB402_417, NB417_402⟩ := nB BK402 hg; have ⟨NB403_417, NB417_403⟩ := nB BK403 hg; have ⟨NB410_417, NB417_410⟩ := nB BK410 hg; replace BK402 := uK BK402 hb; replace BK403 := uK BK403 hb; replace BK410 := uK BK410 hb; replace HB := uB HB hb; clear hb hbox hg; have hnb23 := NB417_402.out; have hnc23 := NB402_417.out; have hnb24 := NB417_403.out; have hnc24 := NB403_417.out; have hnb25 := NB417_410.out; have hnc25 := NB410_417.out; have ⟨hcz26_0, hcz26_1, hcz26_2, hcz26_3, hcz26_4, hfz26_0⟩ := cz5 BK417))
  (try simp only [Act.put, List.setIfInBounds_toArray, List.set_cons_zero, List.set_cons_succ])
  go_cut [67] (fun v67 wc => ∃ (kq : Nat) (x67_6 : Bool), v67 = .bool x67_6 ∧ Aside0 (laws_FnTrips.j0 kq l0 t409 x67_6 t395 t396 t397 t398 t399 t400 t401 t404 t405 t406 t407 t408 = some r) ∧ Aside0 (kq ≤ k) ∧ Aside0 (wc.heap[gb402]? = some (.cells #[.int .i64 t395, .int .i64 t396, .int .i64 t397, .int .i64 t398, .int .i64 t399] 25 (0, 0))) ∧ Aside0 (wc.heap[gb403]? = some (.cells #[.int .i64 t400, .int .i64 t401] 49 (0, 0))) ∧ Aside0 (wc.heap[gb410]? = some (.cells #[.int .i64 t404, .int .i64 t405, .int .i64 t406, .int .i64 t407, .int .i64 t408] 25 (0, 0))) ∧ Aside0 (wc.heap[gb417]? = some (.cells #[.int .i64 t411, .int .i64 t412, .int .i64 t413, .int .i64 t414, .int .i64 t415] 25 (0, 0))) ∧ Aside0 (Below w.heap.size w wc))
  case first =>
   have H := HC7.out
   clear HC7
   by_cases c27 : (!(t404 == t411) || (!(t405 == t412) || (!(t406 == t413) || (!(t407 == t414) || (!(t408 == t415)))))) = true
   ·rw [if_pos c27] at H
    have c27b0 : (!(t404 == t411) || (!(t405 == t412) || (!(t406 == t413) || (!(t407 == t414) || (!(t408 == t415)))))) = true := c27
    clear c27
    (first | rw [c27b0] | (simp only [i64_w, i32_w]; rw [c27b0]) | skip)
    have H' := Aside0.mk H
    clear H
    try go_wp2
    have n0_ : Aside0 ((((((w22.setCell ⟨gb417, 0, none⟩ (.int .i64 t411)).setCell ⟨gb417, 1, none⟩ (.int .i64 t412)).setCell ⟨gb417, 2, none⟩ (.int .i64 t413)).setCell ⟨gb417, 3, none⟩ (.int .i64 t414)).setCell ⟨gb417, 4, none⟩ (.int .i64 t415)).heap[gb402]? = some (.cells #[.int .i64 t395, .int .i64 t396, .int .i64 t397, .int .i64 t398, .int .i64 t399] 25 (0, 0))) := ⟨by exact pW BK402⟩
    have n1_ : Aside0 ((((((w22.setCell ⟨gb417, 0, none⟩ (.int .i64 t411)).setCell ⟨gb417, 1, none⟩ (.int .i64 t412)).setCell ⟨gb417, 2, none⟩ (.int .i64 t413)).setCell ⟨gb417, 3, none⟩ (.int .i64 t414)).setCell ⟨gb417, 4, none⟩ (.int .i64 t415)).heap[gb403]? = some (.cells #[.int .i64 t400, .int .i64 t401] 49 (0, 0))) := ⟨by exact pW BK403⟩
    have n2_ : Aside0 ((((((w22.setCell ⟨gb417, 0, none⟩ (.int .i64 t411)).setCell ⟨gb417, 1, none⟩ (.int .i64 t412)).setCell ⟨gb417, 2, none⟩ (.int .i64 t413)).setCell ⟨gb417, 3, none⟩ (.int .i64 t414)).setCell ⟨gb417, 4, none⟩ (.int .i64 t415)).heap[gb410]? = some (.cells #[.int .i64 t404, .int .i64 t405, .int .i64 t406, .int .i64 t407, .int .i64 t408] 25 (0, 0))) := ⟨by exact pW BK410⟩
    have n3_ : Aside0 ((((((w22.setCell ⟨gb417, 0, none⟩ (.int .i64 t411)).setCell ⟨gb417, 1, none⟩ (.int .i64 t412)).setCell ⟨gb417, 2, none⟩ (.int .i64 t413)).setCell ⟨gb417, 3, none⟩ (.int .i64 t414)).setCell ⟨gb417, 4, none⟩ (.int .i64 t415)).heap[gb417]? = some (.cells #[.int .i64 t411, .int .i64 t412, .int .i64 t413, .int .i64 t414, .int .i64 t415] 25 (0, 0))) := ⟨by exact pW BK417⟩
    have n4_ : Aside0 (Below w.heap.size w (((((w22.setCell ⟨gb417, 0, none⟩ (.int .i64 t411)).setCell ⟨gb417, 1, none⟩ (.int .i64 t412)).setCell ⟨gb417, 2, none⟩ (.int .i64 t413)).setCell ⟨gb417, 3, none⟩ (.int .i64 t414)).setCell ⟨gb417, 4, none⟩ (.int .i64 t415))) := (aB HB)
    (try clear BK402)
    (try clear BK403)
    (try clear BK410)
    (try clear BK417)
    (try clear HB)
    generalize (((((w22.setCell ⟨gb417, 0, none⟩ (.int .i64 t411)).setCell ⟨gb417, 1, none⟩ (.int .i64 t412)).setCell ⟨gb417, 2, none⟩ (.int .i64 t413)).setCell ⟨gb417, 3, none⟩ (.int .i64 t414)).setCell ⟨gb417, 4, none⟩ (.int .i64 t415)) = w28 at n0_ n1_ n2_ n3_ n4_ ⊢
    have BK402 := n0_
    have BK403 := n1_
    have BK410 := n2_
    have BK417 := n3_
    have HB := n4_
    clear n0_ n1_ n2_ n3_ n4_
    replace BK402 := dK BK402
    replace BK403 := dK BK403
    replace BK410 := dK BK410
    replace BK417 := dK BK417
    replace HB := Aside0.mk (below_drew1 HB.out)
    refine sA (n := 15) (S := fun w' => w'.cell? ⟨gb410, 0, none⟩ = some (.int .i64 t404) ∧ w'.cell? ⟨gb410, 1, none⟩ = some (.int .i64 t405) ∧ w'.cell? ⟨gb410, 2, none⟩ = some (.int .i64 t406) ∧ w'.cell? ⟨gb410, 3, none⟩ = some (.int .i64 t407) ∧ w'.cell? ⟨gb410, 4, none⟩ = some (.int .i64 t408) ∧ w'.cell? ⟨gb417, 0, none⟩ = some (.int .i64 t411) ∧ w'.cell? ⟨gb417, 1, none⟩ = some (.int .i64 t412) ∧ w'.cell? ⟨gb417, 2, none⟩ = some (.int .i64 t413) ∧ w'.cell? ⟨gb417, 3, none⟩ = some (.int .i64 t414) ∧ w'.cell? ⟨gb417, 4, none⟩ = some (.int .i64 t415)) (ds := []) laws_FnTrips.tab6 laws_FnTrips.bits6 #[false, false, false, false, false, false, false, false, false, false, false, false, false, false, false] ⟨cb BK410 0, cb BK410 1, cb BK410 2, cb BK410 3, cb BK410 4, cb BK417 0, cb BK417 1, cb BK417 2, cb BK417 3, cb BK417 4⟩ fun hHeld HT_ HW_ => ?_
    generalize w28.drew = w29 at BK402 BK403 BK410 BK417 HB hHeld ⊢
    refine tA 0 53 HT_ HW_ hHeld ?_
    refine tA 1 54 HT_ HW_ hHeld ?_
    refine pA 2 55 HT_ ?_
    refine pA 3 56 HT_ ?_
    refine pU 4 57 HT_ ?_
    refine pU 5 58 HT_ ?_
    refine pU 6 59 HT_ ?_
    refine pA 7 60 HT_ ?_
    refine pA 8 61 HT_ ?_
    refine pU 9 62 HT_ ?_
    refine pU 10 63 HT_ ?_
    refine pU 11 64 HT_ ?_
    refine pU 12 65 HT_ ?_
    refine pU 13 66 HT_ ?_
    refine pA 14 67 HT_ ?_
    refine done_ (done_of HT_.out (by kernel_rfl)) ?_
    try go_wp2
    go_meet
    case rel => exact ⟨_, (true), rB, H', leB, (aK BK402), (aK BK403), (aK BK410), (aK BK417), (aB HB)⟩
   ·rw [if_neg c27] at H
    have c27b0 : (!(t404 == t411) || (!(t405 == t412) || (!(t406 == t413) || (!(t407 == t414) || (!(t408 == t415)))))) = false := by simpa using c27
    clear c27
    (first | rw [c27b0] | (simp only [i64_w, i32_w]; rw [c27b0]) | skip)
    by_cases c30 : (t409 != t416) = true
    ·rw [if_pos c30] at H
     have c30b0 : (t409 != t416) = true := c30
     (try (have c30b1 : decide (t409 = t416) = false := by simpa using c30))
     (try (have c30b2 : (t409 == t416) = false := by simpa using c30))
     (try (have c30b3 : ¬ (t409 = t416) := by simpa using c30))
     clear c30
     have H' := Aside0.mk H
     clear H
     try go_wp2
     have n0_ : Aside0 ((((((w22.setCell ⟨gb417, 0, none⟩ (.int .i64 t411)).setCell ⟨gb417, 1, none⟩ (.int .i64 t412)).setCell ⟨gb417, 2, none⟩ (.int .i64 t413)).setCell ⟨gb417, 3, none⟩ (.int .i64 t414)).setCell ⟨gb417, 4, none⟩ (.int .i64 t415)).heap[gb402]? = some (.cells #[.int .i64 t395, .int .i64 t396, .int .i64 t397, .int .i64 t398, .int .i64 t399] 25 (0, 0))) := ⟨by exact pW BK402⟩
     have n1_ : Aside0 ((((((w22.setCell ⟨gb417, 0, none⟩ (.int .i64 t411)).setCell ⟨gb417, 1, none⟩ (.int .i64 t412)).setCell ⟨gb417, 2, none⟩ (.int .i64 t413)).setCell ⟨gb417, 3, none⟩ (.int .i64 t414)).setCell ⟨gb417, 4, none⟩ (.int .i64 t415)).heap[gb403]? = some (.cells #[.int .i64 t400, .int .i64 t401] 49 (0, 0))) := ⟨by exact pW BK403⟩
     have n2_ : Aside0 ((((((w22.setCell ⟨gb417, 0, none⟩ (.int .i64 t411)).setCell ⟨gb417, 1, none⟩ (.int .i64 t412)).setCell ⟨gb417, 2, none⟩ (.int .i64 t413)).setCell ⟨gb417, 3, none⟩ (.int .i64 t414)).setCell ⟨gb417, 4, none⟩ (.int .i64 t415)).heap[gb410]? = some (.cells #[.int .i64 t404, .int .i64 t405, .int .i64 t406, .int .i64 t407, .int .i64 t408] 25 (0, 0))) := ⟨by exact pW BK410⟩
     have n3_ : Aside0 ((((((w22.setCell ⟨gb417, 0, none⟩ (.int .i64 t411)).setCell ⟨gb417, 1, none⟩ (.int .i64 t412)).setCell ⟨gb417, 2, none⟩ (.int .i64 t413)).setCell ⟨gb417, 3, none⟩ (.int .i64 t414)).setCell ⟨gb417, 4, none⟩ (.int .i64 t415)).heap[gb417]? = some (.cells #[.int .i64 t411, .int .i64 t412, .int .i64 t413, .int .i64 t414, .int .i64 t415] 25 (0, 0))) := ⟨by exact pW BK417⟩
     have n4_ : Aside0 (Below w.heap.size w (((((w22.setCell ⟨gb417, 0, none⟩ (.int .i64 t411)).setCell ⟨gb417, 1, none⟩ (.int .i64 t412)).setCell ⟨gb417, 2, none⟩ (.int .i64 t413)).setCell ⟨gb417, 3, none⟩ (.int .i64 t414)).setCell ⟨gb417, 4, none⟩ (.int .i64 t415))) := (aB HB)
     (try clear BK402)
     (try clear BK403)
     (try clear BK410)
     (try clear BK417)
     (try clear HB)
     generalize (((((w22.setCell ⟨gb417, 0, none⟩ (.int .i64 t411)).setCell ⟨gb417, 1, none⟩ (.int .i64 t412)).setCell ⟨gb417, 2, none⟩ (.int .i64 t413)).setCell ⟨gb417, 3, none⟩ (.int .i64 t414)).setCell ⟨gb417, 4, none⟩ (.int .i64 t415)) = w31 at n0_ n1_ n2_ n3_ n4_ ⊢
     have BK402 := n0_
     have BK403 := n1_
     have BK410 := n2_
     have BK417 := n3_
     have HB := n4_
     clear n0_ n1_ n2_ n3_ n4_
     replace BK402 := dK BK402
     replace BK403 := dK BK403
     replace BK410 := dK BK410
     replace BK417 := dK BK417
     replace HB := Aside0.mk (below_drew1 HB.out)
     refine sA (n := 15) (S := fun w' => w'.cell? ⟨gb410, 0, none⟩ = some (.int .i64 t404) ∧ w'.cell? ⟨gb410, 1, none⟩ = some (.int .i64 t405) ∧ w'.cell? ⟨gb410, 2, none⟩ = some (.int .i64 t406) ∧ w'.cell? ⟨gb410, 3, none⟩ = some (.int .i64 t407) ∧ w'.cell? ⟨gb410, 4, none⟩ = some (.int .i64 t408) ∧ w'.cell? ⟨gb417, 0, none⟩ = some (.int .i64 t411) ∧ w'.cell? ⟨gb417, 1, none⟩ = some (.int .i64 t412) ∧ w'.cell? ⟨gb417, 2, none⟩ = some (.int .i64 t413) ∧ w'.cell? ⟨gb417, 3, none⟩ = some (.int .i64 t414) ∧ w'.cell? ⟨gb417, 4, none⟩ = some (.int .i64 t415)) (ds := []) laws_FnTrips.tab6 laws_FnTrips.bits6 #[false, false, false, false, false, false, false, false, false, false, false, false, false, false, false] ⟨cb BK410 0, cb BK410 1, cb BK410 2, cb BK410 3, cb BK410 4, cb BK417 0, cb BK417 1, cb BK417 2, cb BK417 3, cb BK417 4⟩ fun hHeld HT_ HW_ => ?_
     generalize w31.drew = w32 at BK402 BK403 BK410 BK417 HB hHeld ⊢
     refine tA 0 53 HT_ HW_ hHeld ?_
     refine tA 1 54 HT_ HW_ hHeld ?_
     refine pA 2 55 HT_ ?_
     refine pA 3 56 HT_ ?_
     refine pA 4 57 HT_ ?_
     refine pA 5 58 HT_ ?_
     refine pA 6 59 HT_ ?_
     refine pA 7 60 HT_ ?_
     refine pA 8 61 HT_ ?_
     refine pU 9 62 HT_ ?_
     refine pU 10 63 HT_ ?_
     refine pU 11 64 HT_ ?_
     refine pU 12 65 HT_ ?_
     refine pU 13 66 HT_ ?_
     refine pA 14 67 HT_ ?_
     refine done_ (done_of HT_.out (by kernel_rfl)) ?_
     try go_wp2
     go_meet
     case rel => exact ⟨_, (true), rB, H', leB, (aK BK402), (aK BK403), (aK BK410), (aK BK417), (aB HB)⟩
    ·rw [if_neg c30] at H
     have c30b0 : (t409 != t416) = false := by simpa using c30
     (try (have c30b1 : decide (t409 = t416) = true := by simpa using c30))
     (try (have c30b2 : (t409 == t416) = true := by simpa using c30))
     clear c30
     replace H := bA H
     obtain ⟨t418, A33, H⟩ := H
     replace H := bA H
     obtain ⟨t419, A34, H⟩ := H
     have H' := Aside0.mk H
     clear H
     try go_wp2
     have n0_ : Aside0 ((((((w22.setCell ⟨gb417, 0, none⟩ (.int .i64 t411)).setCell ⟨gb417, 1, none⟩ (.int .i64 t412)).setCell ⟨gb417, 2, none⟩ (.int .i64 t413)).setCell ⟨gb417, 3, none⟩ (.int .i64 t414)).setCell ⟨gb417, 4, none⟩ (.int .i64 t415)).heap[gb402]? = some (.cells #[.int .i64 t395, .int .i64 t396, .int .i64 t397, .int .i64 t398, .int .i64 t399] 25 (0, 0))) := ⟨by exact pW BK402⟩
     have n1_ : Aside0 ((((((w22.setCell ⟨gb417, 0, none⟩ (.int .i64 t411)).setCell ⟨gb417, 1, none⟩ (.int .i64 t412)).setCell ⟨gb417, 2, none⟩ (.int .i64 t413)).setCell ⟨gb417, 3, none⟩ (.int .i64 t414)).setCell ⟨gb417, 4, none⟩ (.int .i64 t415)).heap[gb403]? = some (.cells #[.int .i64 t400, .int .i64 t401] 49 (0, 0))) := ⟨by exact pW BK403⟩
     have n2_ : Aside0 ((((((w22.setCell ⟨gb417, 0, none⟩ (.int .i64 t411)).setCell ⟨gb417, 1, none⟩ (.int .i64 t412)).setCell ⟨gb417, 2, none⟩ (.int .i64 t413)).setCell ⟨gb417, 3, none⟩ (.int .i64 t414)).setCell ⟨gb417, 4, none⟩ (.int .i64 t415)).heap[gb410]? = some (.cells #[.int .i64 t404, .int .i64 t405, .int .i64 t406, .int .i64 t407, .int .i64 t408] 25 (0, 0))) := ⟨by exact pW BK410⟩
     have n3_ : Aside0 ((((((w22.setCell ⟨gb417, 0, none⟩ (.int .i64 t411)).setCell ⟨gb417, 1, none⟩ (.int .i64 t412)).setCell ⟨gb417, 2, none⟩ (.int .i64 t413)).setCell ⟨gb417, 3, none⟩ (.int .i64 t414)).setCell ⟨gb417, 4, none⟩ (.int .i64 t415)).heap[gb417]? = some (.cells #[.int .i64 t411, .int .i64 t412, .int .i64 t413, .int .i64 t414, .int .i64 t415] 25 (0, 0))) := ⟨by exact pW BK417⟩
     have n4_ : Aside0 (Below w.heap.size w (((((w22.setCell ⟨gb417, 0, none⟩ (.int .i64 t411)).setCell ⟨gb417, 1, none⟩ (.int .i64 t412)).setCell ⟨gb417, 2, none⟩ (.int .i64 t413)).setCell ⟨gb417, 3, none⟩ (.int .i64 t414)).setCell ⟨gb417, 4, none⟩ (.int .i64 t415))) := (aB HB)
     (try clear BK402)
     (try clear BK403)
     (try clear BK410)
     (try clear BK417)
     (try clear HB)
     generalize (((((w22.setCell ⟨gb417, 0, none⟩ (.int .i64 t411)).setCell ⟨gb417, 1, none⟩ (.int .i64 t412)).setCell ⟨gb417, 2, none⟩ (.int .i64 t413)).setCell ⟨gb417, 3, none⟩ (.int .i64 t414)).setCell ⟨gb417, 4, none⟩ (.int .i64 t415)) = w35 at n0_ n1_ n2_ n3_ n4_ ⊢
     have BK402 := n0_
     have BK403 := n1_
     have BK410 := n2_
     have BK417 := n3_
     have HB := n4_
     clear n0_ n1_ n2_ n3_ n4_
     replace BK402 := dK BK402
     replace BK403 := dK BK403
     replace BK410 := dK BK410
     replace BK417 := dK BK417
     replace HB := Aside0.mk (below_drew1 HB.out)
     refine sA (n := 15) (S := fun w' => w'.cell? ⟨gb410, 0, none⟩ = some (.int .i64 t404) ∧ w'.cell? ⟨gb410, 1, none⟩ = some (.int .i64 t405) ∧ w'.cell? ⟨gb410, 2, none⟩ = some (.int .i64 t406) ∧ w'.cell? ⟨gb410, 3, none⟩ = some (.int .i64 t407) ∧ w'.cell? ⟨gb410, 4, none⟩ = some (.int .i64 t408) ∧ w'.cell? ⟨gb417, 0, none⟩ = some (.int .i64 t411) ∧ w'.cell? ⟨gb417, 1, none⟩ = some (.int .i64 t412) ∧ w'.cell? ⟨gb417, 2, none⟩ = some (.int .i64 t413) ∧ w'.cell? ⟨gb417, 3, none⟩ = some (.int .i64 t414) ∧ w'.cell? ⟨gb417, 4, none⟩ = some (.int .i64 t415) ∧ w'.cell? ⟨gb402, 0, none⟩ = some (.int .i64 t395) ∧ w'.cell? ⟨gb402, 1, none⟩ = some (.int .i64 t396) ∧ w'.cell? ⟨gb402, 2, none⟩ = some (.int .i64 t397) ∧ w'.cell? ⟨gb402, 3, none⟩ = some (.int .i64 t398) ∧ w'.cell? ⟨gb402, 4, none⟩ = some (.int .i64 t399)) (ds := []) laws_FnTrips.tab6 laws_FnTrips.bits6 #[false, false, false, false, false, false, false, false, false, false, false, false, false, false, false] ⟨cb BK410 0, cb BK410 1, cb BK410 2, cb BK410 3, cb BK410 4, cb BK417 0, cb BK417 1, cb BK417 2, cb BK417 3, cb BK417 4, cb BK402 0, cb BK402 1, cb BK402 2, cb BK402 3, cb BK402 4⟩ fun hHeld HT_ HW_ => ?_
     generalize w35.drew = w36 at BK402 BK403 BK410 BK417 HB hHeld ⊢
     refine tA 0 53 HT_ HW_ hHeld ?_
     refine tA 1 54 HT_ HW_ hHeld ?_
     refine pA 2 55 HT_ ?_
     refine pA 3 56 HT_ ?_
     refine pA 4 57 HT_ ?_
     refine pA 5 58 HT_ ?_
     refine pA 6 59 HT_ ?_
     refine pA 7 60 HT_ ?_
     refine pA 8 61 HT_ ?_
     refine tA 9 62 HT_ HW_ hHeld ?_
     refine tA 11 64 HT_ HW_ hHeld ?_
     refine oA 10 (some 63) HT_ fun K hK => ?_
     refine rA Try.func13 (impl_IsTrip.calls k t395 t396 t397 t398 t399 t418 _ A33.out) ?_
     intro w37 hb
     replace BK402 := uK BK402 hb
     replace BK403 := uK BK403 hb
     replace BK410 := uK BK410 hb
     replace BK417 := uK BK417 hb
     replace HB := uB HB hb
     (try clear hb)
     refine hK.out _ _ ⟨cb BK410 0, cb BK410 1, cb BK410 2, cb BK410 3, cb BK410 4, cb BK417 0, cb BK417 1, cb BK417 2, cb BK417 3, cb BK417 4, cb BK402 0, cb BK402 1, cb BK402 2, cb BK402 3, cb BK402 4⟩ (fun hHeld => ?_)
     clear hK K
     refine nA ?_ (some 63)
     refine oA 12 (some 65) HT_ fun K hK => ?_
     refine rA Try.func11 (spec_IsTrip.calls k t395 t396 t397 t398 t399 t419 _ A34.out) ?_
     intro w38 hb
     replace BK402 := uK BK402 hb
     replace BK403 := uK BK403 hb
     replace BK410 := uK BK410 hb
     replace BK417 := uK BK417 hb
     replace HB := uB HB hb
     (try clear hb)
     refine hK.out _ _ ⟨cb BK410 0, cb BK410 1, cb BK410 2, cb BK410 3, cb BK410 4, cb BK417 0, cb BK417 1, cb BK417 2, cb BK417 3, cb BK417 4, cb BK402 0, cb BK402 1, cb BK402 2, cb BK402 3, cb BK402 4⟩ (fun hHeld => ?_)
     clear hK K
     refine nA ?_ (some 65)
     refine pA 13 66 HT_ ?_
     refine pA 14 67 HT_ ?_
     refine done_ (done_of HT_.out (by kernel_rfl)) ?_
     try go_wp2
     go_meet
     case rel => exact ⟨_, ((t418 != t419)), rB, H', leB, (aK BK402), (aK BK403), (aK BK410), (aK BK417), (aB HB)⟩
  case rest =>
   apply Classical.byContradiction
   intro hn_
   letI h_ : (0 : Nat) = 1 := (hn_ (by
    clear hn_
    clear HC7
    try clear hcz12_0
    try clear hcz12_1
    try clear hcz12_2
    try clear hcz12_3
    try clear hcz12_4
    try clear hcz13_0
    try clear hcz13_1
    try clear hcz18_0
    try clear hcz18_1
    try clear hcz18_2
    try clear hcz18_3
    try clear hcz18_4
    try clear hcz19_0
    try clear hcz19_1
    try clear hcz19_2
    try clear hcz19_3
    try clear hcz19_4
    try clear hcz20_0
    try clear hcz20_1
    try clear hcz26_0
    try clear hcz26_1
    try clear hcz26_2
    try clear hcz26_3
    try clear hcz26_4
    try clear hfz12_0
    try clear hfz13_0
    try clear hfz18_0
    try clear hfz19_0
    try clear hfz20_0
    try clear hfz26_0
    obtain ⟨kq, x67_6, rfl, HA, HJ6, BK402, BK403, BK410, BK417, HB⟩ := hcut
    cases kq with
    | zero => exact absurd HA.out (by simp [laws_FnTrips.j0])
    | succ kj6 =>
     have H := HA.out
     clear HA
     simp only [laws_FnTrips.j0] at H
     rcases Bool.eq_false_or_eq_true x67_6 with rfl | rfl
     ·replace H := iT rfl H
      exact absurd (Option.some.inj H) (by rw [hT]; decide)
     ·replace H := iF (by decide) H
      have HC40 := Aside0.mk H
      clear H
      go_upto_if 68 with (fail)
      go_cut [] (fun wc => ∃ (kq : Nat), Aside0 (laws_FnTrips.j2 kq l0 = some r) ∧ Aside0 (kq ≤ kj6) ∧ Aside0 (wc.heap[gb402]? = some (.cells #[.int .i64 t395, .int .i64 t396, .int .i64 t397, .int .i64 t398, .int .i64 t399] 25 (0, 0))) ∧ Aside0 (wc.heap[gb403]? = some (.cells #[.int .i64 t400, .int .i64 t401] 49 (0, 0))) ∧ Aside0 (wc.heap[gb410]? = some (.cells #[.int .i64 t404, .int .i64 t405, .int .i64 t406, .int .i64 t407, .int .i64 t408] 25 (0, 0))) ∧ Aside0 (wc.heap[gb417]? = some (.cells #[.int .i64 t411, .int .i64 t412, .int .i64 t413, .int .i64 t414, .int .i64 t415] 25 (0, 0))) ∧ Aside0 (Below w.heap.size w wc))
      case first =>
       have H := HC40.out
       clear HC40
       rcases Bool.eq_false_or_eq_true t409 with rfl | rfl
       ·replace H := iT rfl H
        replace H := Option.bind_eq_some_iff.mp H
        obtain ⟨⟨t420, t423⟩, A420, H⟩ := H
        replace H : ((impl_IsTrip.f kj6 t404 t405 t406 t407 t408).bind fun t424 => (if t424 = true then (if t423 = true then ((laws_vHas.f kj6 t420 t400).bind fun t425 => (if t425 = true then (if t408 < t399 then (laws_FnTrips.j1 kj6 l0 true t395 t396 t397 t398 t399 t400 t401 t404 t405 t406 t407 t408) else (if t404 = 4 then (laws_FnTrips.j1 kj6 l0 (t406 != 0) t395 t396 t397 t398 t399 t400 t401 t404 t405 t406 t407 t408) else (laws_FnTrips.j1 kj6 l0 false t395 t396 t397 t398 t399 t400 t401 t404 t405 t406 t407 t408))) else (laws_FnTrips.j1 kj6 l0 true t395 t396 t397 t398 t399 t400 t401 t404 t405 t406 t407 t408))) else (laws_FnTrips.j1 kj6 l0 true t395 t396 t397 t398 t399 t400 t401 t404 t405 t406 t407 t408)) else (laws_FnTrips.j1 kj6 l0 true t395 t396 t397 t398 t399 t400 t401 t404 t405 t406 t407 t408))) = some r := H
        have A42 := Aside0.mk A420
        clear A420
        have HC43 := Aside0.mk H
        clear H
        have hnb44 := NB402_403.out
        have hnc44 := NB403_402.out
        have hnb45 := NB402_410.out
        have hnc45 := NB410_402.out
        have hnb46 := NB402_417.out
        have hnc46 := NB417_402.out
        have ⟨hcz47_0, hcz47_1, hcz47_2, hcz47_3, hcz47_4, hfz47_0⟩ := cz5 BK402
        go_upto_region 10 with (first | ((with_reducible refine gate_callee (f := 22) rfl ?_); refine goesL_ (some 71) rfl rfl Try.func22 (by kernel_rfl) rfl #[.agg #[.int .i64 t395, .int .i64 t396, .int .i64 t397, .int .i64 t398, .int .i64 t399]] rfl argsB ?_; (with_reducible refine (impl_NextKinds.calls kj6 t395 t396 t397 t398 t399 t420 t423 _ A42.out).mono ?_); rintro e w48 ⟨v421, rfl, ho0, hb⟩; refine ⟨_, rfl, ?_⟩; have HO422 := Aside0.mk (Kd.R_lower ho0 (below_size (bW HB))); replace BK402 := uK BK402 hb; replace BK403 := uK BK403 hb; replace BK410 := uK BK410 hb; replace BK417 := uK BK417 hb; replace HB := uB HB hb; (try clear hb); (try clear hk); (try clear ho0)))
        (try simp only [Act.put, List.setIfInBounds_toArray, List.set_cons_zero, List.set_cons_succ])
        go_cut [104] (fun v104 wc => ∃ (kq : Nat) (x104_42 : Bool), v104 = .bool x104_42 ∧ Aside0 (laws_FnTrips.j1 kq l0 x104_42 t395 t396 t397 t398 t399 t400 t401 t404 t405 t406 t407 t408 = some r) ∧ Aside0 (kq ≤ kj6) ∧ Aside0 (wc.heap[gb402]? = some (.cells #[.int .i64 t395, .int .i64 t396, .int .i64 t397, .int .i64 t398, .int .i64 t399] 25 (0, 0))) ∧ Aside0 (wc.heap[gb403]? = some (.cells #[.int .i64 t400, .int .i64 t401] 49 (0, 0))) ∧ Aside0 (wc.heap[gb410]? = some (.cells #[.int .i64 t404, .int .i64 t405, .int .i64 t406, .int .i64 t407, .int .i64 t408] 25 (0, 0))) ∧ Aside0 (wc.heap[gb417]? = some (.cells #[.int .i64 t411, .int .i64 t412, .int .i64 t413, .int .i64 t414, .int .i64 t415] 25 (0, 0))) ∧ Aside0 (Below w.heap.size w wc))
        case first =>
         have H := HC43.out
         clear HC43
         replace H := bA H
         obtain ⟨t424, A49, H⟩ := H
         rcases Bool.eq_false_or_eq_true t424 with rfl | rfl
         ·replace H := iT rfl H
          rcases Bool.eq_false_or_eq_true t423 with rfl | rfl
          ·replace H := iT rfl H
           replace H := bA H
           obtain ⟨t425, A52, H⟩ := H
           rcases Bool.eq_false_or_eq_true t425 with rfl | rfl
           ·replace H := iT rfl H
            replace H := ifD H
            rcases H with ⟨H, -, c54b0⟩ | ⟨H, -, c54b0⟩
            ·(first | rw [c54b0] | (simp only [i64_w, i32_w]; rw [c54b0]) | skip)
             have H' := Aside0.mk H
             clear H
             have hnb56 := NB410_403.out
             have hnc56 := NB403_410.out
             have hnb57 := NB410_417.out
             have hnc57 := NB417_410.out
             have ⟨hcz58_0, hcz58_1, hcz58_2, hcz58_3, hcz58_4, hfz58_0⟩ := cz5 BK410
             go_wp2_with (first | ((with_reducible refine gC 13 ?_); refine lA (some 75) Try.func13 (impl_IsTrip.calls kj6 t404 t405 t406 t407 t408 true _ A49.out) ?_; intro w59 hb; replace HO422 := uR HO422 hb; replace BK402 := uK BK402 hb; replace BK403 := uK BK403 hb; replace BK410 := uK BK410 hb; replace BK417 := uK BK417 hb; replace HB := uB HB hb; (try clear hb); (try clear hk); have hnb60 := NB403_402.out; have hnc60 := NB402_403.out; have hnb61 := NB403_417.out; have hnc61 := NB417_403.out; have ⟨hcz62_0, hcz62_1, hfz62_0⟩ := cz2 BK403; obtain ⟨Ao63, co63, eo63⟩ := Kd.R_slice HO422.out; subst eo63) | (go_at_call 40; (with_reducible refine (laws_vHas.calls kj6 _ _ t420 t400 true _ ?side1 ?side2 A52.out).mono ?_); (case side1 => repeat (first | exact (Kd.R_reads' HO422.out).2.2 | (with_reducible refine Kd.C_alloc ?_ _) | (with_reducible refine Kd.C_drewN ?_ _) | (with_reducible refine Kd.C_drew ?_))); (case side2 => exact (Kd.R_reads' HO422.out).2.1); rintro e w' ⟨rfl, ⟨nd, rfl⟩⟩; have ⟨hcz64_0, hcz64_1, hcz64_2, hcz64_3, hcz64_4, hfz64_0⟩ := cz5 BK410; have hnb65 := NB402_417.out; have hnc65 := NB417_402.out; have ⟨hcz66_0, hcz66_1, hcz66_2, hcz66_3, hcz66_4, hfz66_0⟩ := cz5 BK402))
             go_meet
             case rel => exact ⟨_, (true), rB, H', ⟨by have := HJ6.out; first | omega | exact Nat.le_refl _⟩, (aK BK402), (aK BK403), (aK BK410), (aK BK417), (aB HB)⟩
            ·(first | rw [c54b0] | (simp only [i64_w, i32_w]; rw [c54b0]) | skip)
             replace H := ifI H
             rcases H with ⟨H, -, c67b0, c67b1⟩ | ⟨H, c67, c67b0, c67b1⟩
             ·have H' := Aside0.mk H
              clear H
              have hnb69 := NB410_403.out
              have hnc69 := NB403_410.out
              have hnb70 := NB410_417.out
              have hnc70 := NB417_410.out
              have ⟨hcz71_0, hcz71_1, hcz71_2, hcz71_3, hcz71_4, hfz71_0⟩ := cz5 BK410
              go_wp2_with (first | ((with_reducible refine gC 13 ?_); refine lA (some 75) Try.func13 (impl_IsTrip.calls kj6 t404 t405 t406 t407 t408 true _ A49.out) ?_; intro w72 hb; replace HO422 := uR HO422 hb; replace BK402 := uK BK402 hb; replace BK403 := uK BK403 hb; replace BK410 := uK BK410 hb; replace BK417 := uK BK417 hb; replace HB := uB HB hb; (try clear hb); (try clear hk); have hnb73 := NB403_402.out; have hnc73 := NB402_403.out; have hnb74 := NB403_417.out; have hnc74 := NB417_403.out; have ⟨hcz75_0, hcz75_1, hfz75_0⟩ := cz2 BK403; obtain ⟨Ao76, co76, eo76⟩ := Kd.R_slice HO422.out; subst eo76) | (go_at_call 40; (with_reducible refine (laws_vHas.calls kj6 _ _ t420 t400 true _ ?side1 ?side2 A52.out).mono ?_); (case side1 => repeat (first | exact (Kd.R_reads' HO422.out).2.2 | (with_reducible refine Kd.C_alloc ?_ _) | (with_reducible refine Kd.C_drewN ?_ _) | (with_reducible refine Kd.C_drew ?_))); (case side2 => exact (Kd.R_reads' HO422.out).2.1); rintro e w' ⟨rfl, ⟨nd, rfl⟩⟩; have ⟨hcz77_0, hcz77_1, hcz77_2, hcz77_3, hcz77_4, hfz77_0⟩ := cz5 BK410; have hnb78 := NB402_417.out; have hnc78 := NB417_402.out; have ⟨hcz79_0, hcz79_1, hcz79_2, hcz79_3, hcz79_4, hfz79_0⟩ := cz5 BK402))
              go_meet
              case rel => exact ⟨_, ((t406 != 0)), rB, H', ⟨by have := HJ6.out; first | omega | exact Nat.le_refl _⟩, (aK BK402), (aK BK403), (aK BK410), (aK BK417), (aB HB)⟩
             ·have H' := Aside0.mk H
              clear H
              have hnb81 := NB410_403.out
              have hnc81 := NB403_410.out
              have hnb82 := NB410_417.out
              have hnc82 := NB417_410.out
              have ⟨hcz83_0, hcz83_1, hcz83_2, hcz83_3, hcz83_4, hfz83_0⟩ := cz5 BK410
              go_wp2_with (first | ((with_reducible refine gC 13 ?_); refine lA (some 75) Try.func13 (impl_IsTrip.calls kj6 t404 t405 t406 t407 t408 true _ A49.out) ?_; intro w84 hb; replace HO422 := uR HO422 hb; replace BK402 := uK BK402 hb; replace BK403 := uK BK403 hb; replace BK410 := uK BK410 hb; replace BK417 := uK BK417 hb; replace HB := uB HB hb; (try clear hb); (try clear hk); have hnb85 := NB403_402.out; have hnc85 := NB402_403.out; have hnb86 := NB403_417.out; have hnc86 := NB417_403.out; have ⟨hcz87_0, hcz87_1, hfz87_0⟩ := cz2 BK403; obtain ⟨Ao88, co88, eo88⟩ := Kd.R_slice HO422.out; subst eo88) | (go_at_call 40; (with_reducible refine (laws_vHas.calls kj6 _ _ t420 t400 true _ ?side1 ?side2 A52.out).mono ?_); (case side1 => repeat (first | exact (Kd.R_reads' HO422.out).2.2 | (with_reducible refine Kd.C_alloc ?_ _) | (with_reducible refine Kd.C_drewN ?_ _) | (with_reducible refine Kd.C_drew ?_))); (case side2 => exact (Kd.R_reads' HO422.out).2.1); rintro e w' ⟨rfl, ⟨nd, rfl⟩⟩; have ⟨hcz89_0, hcz89_1, hcz89_2, hcz89_3, hcz89_4, hfz89_0⟩ := cz5 BK410; have hnb90 := NB402_417.out; have hnc90 := NB417_402.out; have ⟨hcz91_0, hcz91_1, hcz91_2, hcz91_3, hcz91_4, hfz91_0⟩ := cz5 BK402))
              go_meet
              case rel => exact ⟨_, (false), rB, H', ⟨by have := HJ6.out; first | omega | exact Nat.le_refl _⟩, (aK BK402), (aK BK403), (aK BK410), (aK BK417), (aB HB)⟩
           ·replace H := iF (by decide) H
            have H' := Aside0.mk H
            clear H
            have hnb93 := NB410_403.out
            have hnc93 := NB403_410.out
            have hnb94 := NB410_417.out
            have hnc94 := NB417_410.out
            have ⟨hcz95_0, hcz95_1, hcz95_2, hcz95_3, hcz95_4, hfz95_0⟩ := cz5 BK410
            go_wp2_with (first | ((with_reducible refine gC 13 ?_); refine lA (some 75) Try.func13 (impl_IsTrip.calls kj6 t404 t405 t406 t407 t408 true _ A49.out) ?_; intro w96 hb; replace HO422 := uR HO422 hb; replace BK402 := uK BK402 hb; replace BK403 := uK BK403 hb; replace BK410 := uK BK410 hb; replace BK417 := uK BK417 hb; replace HB := uB HB hb; (try clear hb); (try clear hk); have hnb97 := NB403_402.out; have hnc97 := NB402_403.out; have hnb98 := NB403_417.out; have hnc98 := NB417_403.out; have ⟨hcz99_0, hcz99_1, hfz99_0⟩ := cz2 BK403; obtain ⟨Ao100, co100, eo100⟩ := Kd.R_slice HO422.out; subst eo100) | (go_at_call 40; (with_reducible refine (laws_vHas.calls kj6 _ _ t420 t400 false _ ?side1 ?side2 A52.out).mono ?_); (case side1 => repeat (first | exact (Kd.R_reads' HO422.out).2.2 | (with_reducible refine Kd.C_alloc ?_ _) | (with_reducible refine Kd.C_drewN ?_ _) | (with_reducible refine Kd.C_drew ?_))); (case side2 => exact (Kd.R_reads' HO422.out).2.1); rintro e w' ⟨rfl, ⟨nd, rfl⟩⟩))
            go_meet
            case rel => exact ⟨_, (true), rB, H', ⟨by have := HJ6.out; first | omega | exact Nat.le_refl _⟩, (aK BK402), (aK BK403), (aK BK410), (aK BK417), (aB HB)⟩
          ·replace H := iF (by decide) H
           have H' := Aside0.mk H
           clear H
           have hnb102 := NB410_403.out
           have hnc102 := NB403_410.out
           have hnb103 := NB410_417.out
           have hnc103 := NB417_410.out
           have ⟨hcz104_0, hcz104_1, hcz104_2, hcz104_3, hcz104_4, hfz104_0⟩ := cz5 BK410
           go_wp2_with (first | ((with_reducible refine gC 13 ?_); refine lA (some 75) Try.func13 (impl_IsTrip.calls kj6 t404 t405 t406 t407 t408 true _ A49.out) ?_; intro w105 hb; replace HO422 := uR HO422 hb; replace BK402 := uK BK402 hb; replace BK403 := uK BK403 hb; replace BK410 := uK BK410 hb; replace BK417 := uK BK417 hb; replace HB := uB HB hb; (try clear hb); (try clear hk)))
           go_meet
           case rel => exact ⟨_, (true), rB, H', ⟨by have := HJ6.out; first | omega | exact Nat.le_refl _⟩, (aK BK402), (aK BK403), (aK BK410), (aK BK417), (aB HB)⟩
         ·replace H := iF (by decide) H
          have H' := Aside0.mk H
          clear H
          have hnb107 := NB410_403.out
          have hnc107 := NB403_410.out
          have hnb108 := NB410_417.out
          have hnc108 := NB417_410.out
          have ⟨hcz109_0, hcz109_1, hcz109_2, hcz109_3, hcz109_4, hfz109_0⟩ := cz5 BK410
          go_wp2_with (first | ((with_reducible refine gC 13 ?_); refine lA (some 75) Try.func13 (impl_IsTrip.calls kj6 t404 t405 t406 t407 t408 false _ A49.out) ?_; intro w110 hb; replace HO422 := uR HO422 hb; replace BK402 := uK BK402 hb; replace BK403 := uK BK403 hb; replace BK410 := uK BK410 hb; replace BK417 := uK BK417 hb; replace HB := uB HB hb; (try clear hb); (try clear hk)))
          go_meet
          case rel => exact ⟨_, (true), rB, H', ⟨by have := HJ6.out; first | omega | exact Nat.le_refl _⟩, (aK BK402), (aK BK403), (aK BK410), (aK BK417), (aB HB)⟩
        case rest =>
         apply Classical.byContradiction
         intro hn_
         letI h_ : (0 : Nat) = 1 := (hn_ (by
          clear hn_
          clear HC43
          try clear hcz12_0
          try clear hcz12_1
          try clear hcz12_2
          try clear hcz12_3
          try clear hcz12_4
          try clear hcz13_0
          try clear hcz13_1
          try clear hcz18_0
          try clear hcz18_1
          try clear hcz18_2
          try clear hcz18_3
          try clear hcz18_4
          try clear hcz19_0
          try clear hcz19_1
          try clear hcz19_2
          try clear hcz19_3
          try clear hcz19_4
          try clear hcz20_0
          try clear hcz20_1
          try clear hcz26_0
          try clear hcz26_1
          try clear hcz26_2
          try clear hcz26_3
          try clear hcz26_4
          try clear hcz47_0
          try clear hcz47_1
          try clear hcz47_2
          try clear hcz47_3
          try clear hcz47_4
          try clear hfz12_0
          try clear hfz13_0
          try clear hfz18_0
          try clear hfz19_0
          try clear hfz20_0
          try clear hfz26_0
          try clear hfz47_0
          obtain ⟨kq, x104_42, rfl, HA, HJ42, BK402, BK403, BK410, BK417, HB⟩ := hcut
          cases kq with
          | zero => exact absurd HA.out (by simp [laws_FnTrips.j1])
          | succ kj42 =>
           have H := HA.out
           clear HA
           simp only [laws_FnTrips.j1] at H
           rcases Bool.eq_false_or_eq_true x104_42 with rfl | rfl
           ·replace H := iT rfl H
            exact absurd (Option.some.inj H) (by rw [hT]; decide)
           ·replace H := iF (by decide) H
            replace H := ifD H
            rcases H with ⟨H, -, c112b0⟩ | ⟨H, -, c112b0⟩
            ·replace H := ifI H
             rcases H with ⟨H, -, c113b0, c113b1⟩ | ⟨H, c113, c113b0, c113b1⟩
             ·replace H := ifI H
              rcases H with ⟨H, -, c114b0, c114b1⟩ | ⟨H, c114, c114b0, c114b1⟩
              ·replace H := ifI H
               rcases H with ⟨H, -, c115b0, c115b1⟩ | ⟨H, c115, c115b0, c115b1⟩
               ·exact absurd (Option.some.inj H) (by rw [hT]; decide)
               ·have H' := Aside0.mk H
                clear H
                have ⟨hcz128_0, hcz128_1, hcz128_2, hcz128_3, hcz128_4, hfz128_0⟩ := cz5 BK402
                have hnb129 := NB403_410.out
                have hnc129 := NB410_403.out
                have hnb130 := NB403_417.out
                have hnc130 := NB417_403.out
                have ⟨hcz131_0, hcz131_1, hfz131_0⟩ := cz2 BK403
                have hnb132 := NB410_417.out
                have hnc132 := NB417_410.out
                have ⟨hcz133_0, hcz133_1, hcz133_2, hcz133_3, hcz133_4, hfz133_0⟩ := cz5 BK410
                go_wp2
                go_meet
                case rel => exact ⟨_, H', ⟨by have := HJ6.out; have := HJ42.out; first | omega | exact Nat.le_refl _⟩, (aK BK402), (aK BK403), (aK BK410), (aK BK417), (aB HB)⟩
              ·have H' := Aside0.mk H
               clear H
               have ⟨hcz137_0, hcz137_1, hcz137_2, hcz137_3, hcz137_4, hfz137_0⟩ := cz5 BK402
               have hnb138 := NB403_410.out
               have hnc138 := NB410_403.out
               have hnb139 := NB403_417.out
               have hnc139 := NB417_403.out
               have ⟨hcz140_0, hcz140_1, hfz140_0⟩ := cz2 BK403
               go_wp2
               go_meet
               case rel => exact ⟨_, H', ⟨by have := HJ6.out; have := HJ42.out; first | omega | exact Nat.le_refl _⟩, (aK BK402), (aK BK403), (aK BK410), (aK BK417), (aB HB)⟩
             ·exact absurd (Option.some.inj H) (by rw [hT]; decide)
            ·replace H := ifI H
             rcases H with ⟨H, -, c148b0, c148b1⟩ | ⟨H, c148, c148b0, c148b1⟩
             ·replace H := ifI H
              rcases H with ⟨H, -, c149b0, c149b1⟩ | ⟨H, c149, c149b0, c149b1⟩
              ·exact absurd (Option.some.inj H) (by rw [hT]; decide)
              ·have H' := Aside0.mk H
               clear H
               have ⟨hcz160_0, hcz160_1, hcz160_2, hcz160_3, hcz160_4, hfz160_0⟩ := cz5 BK402
               have hnb161 := NB410_403.out
               have hnc161 := NB403_410.out
               have hnb162 := NB410_417.out
               have hnc162 := NB417_410.out
               have ⟨hcz163_0, hcz163_1, hcz163_2, hcz163_3, hcz163_4, hfz163_0⟩ := cz5 BK410
               go_wp2
               go_meet
               case rel => exact ⟨_, H', ⟨by have := HJ6.out; have := HJ42.out; first | omega | exact Nat.le_refl _⟩, (aK BK402), (aK BK403), (aK BK410), (aK BK417), (aB HB)⟩
             ·have H' := Aside0.mk H
              clear H
              have ⟨hcz167_0, hcz167_1, hcz167_2, hcz167_3, hcz167_4, hfz167_0⟩ := cz5 BK402
              go_wp2
              go_meet
              case rel => exact ⟨_, H', ⟨by have := HJ6.out; have := HJ42.out; first | omega | exact Nat.le_refl _⟩, (aK BK402), (aK BK403), (aK BK410), (aK BK417), (aB HB)⟩
          )).elim
         omega
       ·replace H := iF (by decide) H
        have H' := Aside0.mk H
        clear H
        go_wp2
        go_meet
        case rel => exact ⟨_, H', ⟨by have := HJ6.out; first | omega | exact Nat.le_refl _⟩, (aK BK402), (aK BK403), (aK BK410), (aK BK417), (aB HB)⟩
      case rest =>
       apply Classical.byContradiction
       intro hn_
       letI h_ : (0 : Nat) = 1 := (hn_ (by
        clear hn_
        clear HC40
        try clear hcz12_0
        try clear hcz12_1
        try clear hcz12_2
        try clear hcz12_3
        try clear hcz12_4
        try clear hcz13_0
        try clear hcz13_1
        try clear hcz18_0
        try clear hcz18_1
        try clear hcz18_2
        try clear hcz18_3
        try clear hcz18_4
        try clear hcz19_0
        try clear hcz19_1
        try clear hcz19_2
        try clear hcz19_3
        try clear hcz19_4
        try clear hcz20_0
        try clear hcz20_1
        try clear hcz26_0
        try clear hcz26_1
        try clear hcz26_2
        try clear hcz26_3
        try clear hcz26_4
        try clear hfz12_0
        try clear hfz13_0
        try clear hfz18_0
        try clear hfz19_0
        try clear hfz20_0
        try clear hfz26_0
        obtain ⟨kq, HA, HJ39, BK402, BK403, BK410, BK417, HB⟩ := hcut
        cases kq with
        | zero => exact absurd HA.out (by simp [laws_FnTrips.j2])
        | succ kj39 =>
         have H := HA.out
         clear HA
         simp only [laws_FnTrips.j2] at H
         replace H := Option.bind_eq_some_iff.mp H
         obtain ⟨⟨t426, t427, t428, t429, t430, t431⟩, A1680, H⟩ := H
         replace H : ((impl_RunTrip.f kj39 t426 t427 t428 t429 t430 t431).bind fun bt435 => ((spec_RunTrip.f kj39 t426 t427 t428 t429 t430 t431).bind fun bt443 => (if (!(bt435.1 == bt443.1) || (!(bt435.2.1 == bt443.2.1) || (!(bt435.2.2.1 == bt443.2.2.1) || (!(bt435.2.2.2.1 == bt443.2.2.2.1) || (!(bt435.2.2.2.2.1 == bt443.2.2.2.2.1)))))) = true then (laws_FnTrips.j3 kj39 l0 t431 bt435.2.2.2.2.2.1 bt435.2.2.2.2.2.2 true t426 t427 t428 t429 t430 bt435.1 bt435.2.1 bt435.2.2.1 bt435.2.2.2.1 bt435.2.2.2.2.1) else (if bt435.2.2.2.2.2.1 = bt443.2.2.2.2.2.1 then (laws_FnTrips.j3 kj39 l0 t431 bt435.2.2.2.2.2.1 bt435.2.2.2.2.2.2 (bt435.2.2.2.2.2.2 != bt443.2.2.2.2.2.2) t426 t427 t428 t429 t430 bt435.1 bt435.2.1 bt435.2.2.1 bt435.2.2.2.1 bt435.2.2.2.2.1) else (laws_FnTrips.j3 kj39 l0 t431 bt435.2.2.2.2.2.1 bt435.2.2.2.2.2.2 true t426 t427 t428 t429 t430 bt435.1 bt435.2.1 bt435.2.2.1 bt435.2.2.2.1 bt435.2.2.2.2.1))))) = some r := H
         have A168 := Aside0.mk A1680
         clear A1680
         replace H := Option.bind_eq_some_iff.mp H
         obtain ⟨⟨t435, t436, t437, t438, t439, t440, t441⟩, A1690, H⟩ := H
         replace H : ((spec_RunTrip.f kj39 t426 t427 t428 t429 t430 t431).bind fun bt443 => (if (!(t435 == bt443.1) || (!(t436 == bt443.2.1) || (!(t437 == bt443.2.2.1) || (!(t438 == bt443.2.2.2.1) || (!(t439 == bt443.2.2.2.2.1)))))) = true then (laws_FnTrips.j3 kj39 l0 t431 t440 t441 true t426 t427 t428 t429 t430 t435 t436 t437 t438 t439) else (if t440 = bt443.2.2.2.2.2.1 then (laws_FnTrips.j3 kj39 l0 t431 t440 t441 (t441 != bt443.2.2.2.2.2.2) t426 t427 t428 t429 t430 t435 t436 t437 t438 t439) else (laws_FnTrips.j3 kj39 l0 t431 t440 t441 true t426 t427 t428 t429 t430 t435 t436 t437 t438 t439)))) = some r := H
         have A169 := Aside0.mk A1690
         clear A1690
         replace H := Option.bind_eq_some_iff.mp H
         obtain ⟨⟨t443, t444, t445, t446, t447, t448, t449⟩, A1700, H⟩ := H
         replace H : (if (!(t435 == t443) || (!(t436 == t444) || (!(t437 == t445) || (!(t438 == t446) || (!(t439 == t447)))))) = true then (laws_FnTrips.j3 kj39 l0 t431 t440 t441 true t426 t427 t428 t429 t430 t435 t436 t437 t438 t439) else (if t440 = t448 then (laws_FnTrips.j3 kj39 l0 t431 t440 t441 (t441 != t449) t426 t427 t428 t429 t430 t435 t436 t437 t438 t439) else (laws_FnTrips.j3 kj39 l0 t431 t440 t441 true t426 t427 t428 t429 t430 t435 t436 t437 t438 t439))) = some r := H
         have A170 := Aside0.mk A1700
         clear A1700
         have HC171 := Aside0.mk H
         clear H
         go_upto_region 17 with (first | ((with_reducible refine gate_callee (f := 41) rfl ?_); refine goesL_ (some 125) rfl rfl Try.func41 (by kernel_rfl) rfl #[.slice A0 l0.length c0] rfl argsB ?_; (with_reducible refine (spec_DrawRunTrip.calls kj39 _ _ l0 t426 t427 t428 t429 t430 t431 _ ?side1 ?side2 A168.out).mono ?_); (case side1 => repeat (first | exact (Kd.C_below HR0.out HB.out) | (with_reducible refine Kd.C_alloc ?_ _) | (with_reducible refine Kd.C_drewN ?_ _) | (with_reducible refine Kd.C_drew ?_))); (case side2 => exact HC0.out); rintro e w172 ⟨v432, rfl, ho0, hb⟩; refine ⟨_, rfl, ?_⟩; have HO433 := Aside0.mk (Kd.R_lower (Kd.R_newB ho0 (g := gb403) (o := .cells #[.int .i64 t400, .int .i64 t401] 49 (0, 0)) (upK BK403.out)) (below_size (bW HB))); replace BK402 := uK BK402 hb; replace BK403 := uK BK403 hb; replace BK410 := uK BK410 hb; replace BK417 := uK BK417 hb; replace HB := uB HB hb; (try clear hb); (try clear hk); (try clear ho0)) | ((with_reducible refine gD 11 ?_); refine bxE 11 25 #[.int .i64 0, .int .i64 0, .int .i64 0, .int .i64 0, .int .i64 0] fun gb434 w173 hg hbox hb => ?_; have BK434 := Aside0.mk hbox; have GE434 := gB HB hg; have ⟨NB402_434, NB434_402⟩ := nB BK402 hg; have ⟨NB403_434, NB434_403⟩ := nB BK403 hg; have ⟨NB410_434, NB434_410⟩ := nB BK410 hg; have ⟨NB417_434, NB434_417⟩ := nB BK417 hg; replace HO433 := uR HO433 hb; replace BK402 := uK BK402 hb; replace BK403 := uK BK403 hb; replace BK410 := uK BK410 hb; replace BK417 := uK BK417 hb; replace HB := uB HB hb; clear hb hbox hg; have hnb174 := NB434_402.out; have hnc174 := NB402_434.out; have hnb175 := NB434_403.out; have hnc175 := NB403_434.out; have hnb176 := NB434_410.out; have hnc176 := NB410_434.out; have hnb177 := NB434_417.out; have hnc177 := NB417_434.out; have ⟨hcz178_0, hcz178_1, hcz178_2, hcz178_3, hcz178_4, hfz178_0⟩ := cz5 BK434; obtain ⟨Ao179, co179, eo179⟩ := Kd.R_slice HO433.out; subst eo179) | ((with_reducible refine gC 36 ?_); refine lA (some 131) Try.func36 (impl_RunTrip.calls kj39 t426 t427 t428 t429 t430 _ _ t431 t435 t436 t437 t438 t439 t440 t441 _ ?side1 ?side2 A169.out) ?_; (case side1 => refine (Kd.R_reads' (e := 49) (base := w.heap.size) (ok := fun k_ => (True ∧ k_ ≠ gb403)) (n := t431.length) (c := co179) ?_).2.2; exact (by (with_reducible repeat (first | apply Kd.R_alloc | apply Kd.R_drewN | apply Kd.R_drew)); exact (Kd.R_mono (Kd.R_far (p := ⟨gb434, 4, none⟩) (Kd.R_far (p := ⟨gb434, 3, none⟩) (Kd.R_far (p := ⟨gb434, 2, none⟩) (Kd.R_far (p := ⟨gb434, 1, none⟩) (Kd.R_far (p := ⟨gb434, 0, none⟩) (Kd.R_types HO433.out BK434.out (by decide)) (fun _ hk => hk.2) (.int .i64 t426)) (fun _ hk => hk.2) (.int .i64 t427)) (fun _ hk => hk.2) (.int .i64 t428)) (fun _ hk => hk.2) (.int .i64 t429)) (fun _ hk => hk.2) (.int .i64 t430)) (fun _ h_ => h_.1)))); (case side2 => exact (Kd.R_reads' HO433.out).2.1); intro w180 hb; replace HO433 := Aside0.mk (Kd.R_below (by (with_reducible repeat (first | apply Kd.R_alloc | apply Kd.R_drewN | apply Kd.R_drew)); exact (Kd.R_mono (Kd.R_far (p := ⟨gb434, 4, none⟩) (Kd.R_far (p := ⟨gb434, 3, none⟩) (Kd.R_far (p := ⟨gb434, 2, none⟩) (Kd.R_far (p := ⟨gb434, 1, none⟩) (Kd.R_far (p := ⟨gb434, 0, none⟩) (Kd.R_types HO433.out BK434.out (by decide)) (fun _ hk => hk.2) (.int .i64 t426)) (fun _ hk => hk.2) (.int .i64 t427)) (fun _ hk => hk.2) (.int .i64 t428)) (fun _ hk => hk.2) (.int .i64 t429)) (fun _ hk => hk.2) (.int .i64 t430)) (fun _ h_ => h_.1))) hb); replace BK402 := uQ BK402 hb #[.int .i64 t395, .int .i64 t396, .int .i64 t397, .int .i64 t398, .int .i64 t399]; replace BK403 := uQ BK403 hb #[.int .i64 t400, .int .i64 t401]; replace BK410 := uQ BK410 hb #[.int .i64 t404, .int .i64 t405, .int .i64 t406, .int .i64 t407, .int .i64 t408]; replace BK417 := uQ BK417 hb #[.int .i64 t411, .int .i64 t412, .int .i64 t413, .int .i64 t414, .int .i64 t415]; replace BK434 := uQ BK434 hb #[.int .i64 t426, .int .i64 t427, .int .i64 t428, .int .i64 t429, .int .i64 t430]; replace HB := uB HB hb; (try clear hb); (try clear hk)) | ((with_reducible refine gD 13 ?_); refine bxE 13 25 #[.int .i64 0, .int .i64 0, .int .i64 0, .int .i64 0, .int .i64 0] fun gb442 w181 hg hbox hb => ?_; have BK442 := Aside0.mk hbox; have GE442 := gB HB hg; have ⟨NB402_442, NB442_402⟩ := nB BK402 hg; have ⟨NB403_442, NB442_403⟩ := nB BK403 hg; have ⟨NB410_442, NB442_410⟩ := nB BK410 hg; have ⟨NB417_442, NB442_417⟩ := nB BK417 hg; have ⟨NB434_442, NB442_434⟩ := nB BK434 hg; replace HO433 := uR HO433 hb; replace BK402 := uK BK402 hb; replace BK403 := uK BK403 hb; replace BK410 := uK BK410 hb; replace BK417 := uK BK417 hb; replace BK434 := uK BK434 hb; replace HB := uB HB hb; clear hb hbox hg; have hnb182 := NB442_402.out; have hnc182 := NB402_442.out; have hnb183 := NB442_403.out; have hnc183 := NB403_442.out; have hnb184 := NB442_410.out; have hnc184 := NB410_442.out; have hnb185 := NB442_417.out; have hnc185 := NB417_442.out; have hnb186 := NB442_434.out; have hnc186 := NB434_442.out; have ⟨hcz187_0, hcz187_1, hcz187_2, hcz187_3, hcz187_4, hfz187_0⟩ := cz5 BK442; have ⟨hcz188_0, hcz188_1, hcz188_2, hcz188_3, hcz188_4, hfz188_0⟩ := cz5 BK434) | ((with_reducible refine gC 34 ?_); refine lA (some 138) Try.func34 (spec_RunTrip.calls kj39 t426 t427 t428 t429 t430 _ _ t431 t443 t444 t445 t446 t447 t448 t449 _ ?side1 ?side2 A170.out) ?_; (case side1 => refine (Kd.R_reads' (e := 49) (base := w.heap.size) (ok := fun k_ => (True ∧ k_ ≠ gb403)) (n := t431.length) (c := co179) ?_).2.2; exact (by (with_reducible repeat (first | apply Kd.R_alloc | apply Kd.R_drewN | apply Kd.R_drew)); exact (Kd.R_mono (Kd.R_far (p := ⟨gb442, 4, none⟩) (Kd.R_far (p := ⟨gb442, 3, none⟩) (Kd.R_far (p := ⟨gb442, 2, none⟩) (Kd.R_far (p := ⟨gb442, 1, none⟩) (Kd.R_far (p := ⟨gb442, 0, none⟩) (Kd.R_types HO433.out BK442.out (by decide)) (fun _ hk => hk.2) (.int .i64 t435)) (fun _ hk => hk.2) (.int .i64 t436)) (fun _ hk => hk.2) (.int .i64 t437)) (fun _ hk => hk.2) (.int .i64 t438)) (fun _ hk => hk.2) (.int .i64 t439)) (fun _ h_ => h_.1)))); (case side2 => exact (Kd.R_reads' HO433.out).2.1); intro w189 hb; replace HO433 := Aside0.mk (Kd.R_below (by (with_reducible repeat (first | apply Kd.R_alloc | apply Kd.R_drewN | apply Kd.R_drew)); exact (Kd.R_mono (Kd.R_far (p := ⟨gb442, 4, none⟩) (Kd.R_far (p := ⟨gb442, 3, none⟩) (Kd.R_far (p := ⟨gb442, 2, none⟩) (Kd.R_far (p := ⟨gb442, 1, none⟩) (Kd.R_far (p := ⟨gb442, 0, none⟩) (Kd.R_types HO433.out BK442.out (by decide)) (fun _ hk => hk.2) (.int .i64 t435)) (fun _ hk => hk.2) (.int .i64 t436)) (fun _ hk => hk.2) (.int .i64 t437)) (fun _ hk => hk.2) (.int .i64 t438)) (fun _ hk => hk.2) (.int .i64 t439)) (fun _ h_ => h_.1))) hb); replace BK402 := uQ BK402 hb #[.int .i64 t395, .int .i64 t396, .int .i64 t397, .int .i64 t398, .int .i64 t399]; replace BK403 := uQ BK403 hb #[.int .i64 t400, .int .i64 t401]; replace BK410 := uQ BK410 hb #[.int .i64 t404, .int .i64 t405, .int .i64 t406, .int .i64 t407, .int .i64 t408]; replace BK417 := uQ BK417 hb #[.int .i64 t411, .int .i64 t412, .int .i64 t413, .int .i64 t414, .int .i64 t415]; replace BK434 := uQ BK434 hb #[.int .i64 t426, .int .i64 t427, .int .i64 t428, .int .i64 t429, .int .i64 t430]; replace BK442 := uQ BK442 hb #[.int .i64 t435, .int .i64 t436, .int .i64 t437, .int .i64 t438, .int .i64 t439]; replace HB := uB HB hb; (try clear hb); (try clear hk)) | ((with_reducible refine gD 16 ?_); refine bxE 16 25 #[.int .i64 0, .int .i64 0, .int .i64 0, .int .i64 0, .int .i64 0] fun gb450 w190 hg hbox hb => ?_; have BK450 := Aside0.mk hbox; have GE450 := gB HB hg; have ⟨NB402_450, NB450_402⟩ := nB BK402 hg; have ⟨NB403_450, NB450_403⟩ := nB BK403 hg; have ⟨NB410_450, NB450_410⟩ := nB BK410 hg; have ⟨NB417_450, NB450_417⟩ := nB BK417 hg; have ⟨NB434_450, NB450_434⟩ := nB BK434 hg; have ⟨NB442_450, NB450_442⟩ := nB BK442 hg; replace HO433 := uR HO433 hb; replace BK402 := uK BK402 hb; replace BK403 := uK BK403 hb; replace BK410 := uK BK410 hb; replace BK417 := uK BK417 hb; replace BK434 := uK BK434 hb; replace BK442 := uK BK442 hb; replace HB := uB HB hb; clear hb hbox hg; have hnb191 := NB450_402.out; have hnc191 := NB402_450.out; have hnb192 := NB450_403.out; have hnc192 := NB403_450.out; have hnb193 := NB450_410.out; have hnc193 := NB410_450.out; have hnb194 := NB450_417.out; have hnc194 := NB417_450.out; have hnb195 := NB450_434.out; have hnc195 := NB434_450.out; have hnb196 := NB450_442.out; have hnc196 := NB442_450.out; have ⟨hcz197_0, hcz197_1, hcz197_2, hcz197_3, hcz197_4, hfz197_0⟩ := cz5 BK450))
         (try simp only [Act.put, List.setIfInBounds_toArray, List.set_cons_zero, List.set_cons_succ])
         go_cut [154] (fun v154 wc => ∃ (kq : Nat) (x154_170 : Bool), v154 = .bool x154_170 ∧ Aside0 (laws_FnTrips.j3 kq l0 t431 t440 t441 x154_170 t426 t427 t428 t429 t430 t435 t436 t437 t438 t439 = some r) ∧ Aside0 (kq ≤ kj39) ∧ Aside0 (Kd.R k49 49 wc w.heap.size (fun k_ => k_ ≠ gb403) (.slice Ao179 t431.length co179) t431) ∧ Aside0 (wc.heap[gb402]? = some (.cells #[.int .i64 t395, .int .i64 t396, .int .i64 t397, .int .i64 t398, .int .i64 t399] 25 (0, 0))) ∧ Aside0 (wc.heap[gb403]? = some (.cells #[.int .i64 t400, .int .i64 t401] 49 (0, 0))) ∧ Aside0 (wc.heap[gb410]? = some (.cells #[.int .i64 t404, .int .i64 t405, .int .i64 t406, .int .i64 t407, .int .i64 t408] 25 (0, 0))) ∧ Aside0 (wc.heap[gb417]? = some (.cells #[.int .i64 t411, .int .i64 t412, .int .i64 t413, .int .i64 t414, .int .i64 t415] 25 (0, 0))) ∧ Aside0 (wc.heap[gb434]? = some (.cells #[.int .i64 t426, .int .i64 t427, .int .i64 t428, .int .i64 t429, .int .i64 t430] 25 (0, 0))) ∧ Aside0 (wc.heap[gb442]? = some (.cells #[.int .i64 t435, .int .i64 t436, .int .i64 t437, .int .i64 t438, .int .i64 t439] 25 (0, 0))) ∧ Aside0 (wc.heap[gb450]? = some (.cells #[.int .i64 t443, .int .i64 t444, .int .i64 t445, .int .i64 t446, .int .i64 t447] 25 (0, 0))) ∧ Aside0 (Below w.heap.size w wc))
         case first =>
          have H := HC171.out
          clear HC171
          by_cases c198 : (!(t435 == t443) || (!(t436 == t444) || (!(t437 == t445) || (!(t438 == t446) || (!(t439 == t447)))))) = true
          ·rw [if_pos c198] at H
           have c198b0 : (!(t435 == t443) || (!(t436 == t444) || (!(t437 == t445) || (!(t438 == t446) || (!(t439 == t447)))))) = true := c198
           clear c198
           (first | rw [c198b0] | (simp only [i64_w, i32_w]; rw [c198b0]) | skip)
           have H' := Aside0.mk H
           clear H
           have hnb199 := NB442_402.out
           have hnc199 := NB402_442.out
           have hnb200 := NB442_403.out
           have hnc200 := NB403_442.out
           have hnb201 := NB442_410.out
           have hnc201 := NB410_442.out
           have hnb202 := NB442_417.out
           have hnc202 := NB417_442.out
           have hnb203 := NB442_434.out
           have hnc203 := NB434_442.out
           have hnb204 := NB442_450.out
           have hnc204 := NB450_442.out
           have ⟨hcz205_0, hcz205_1, hcz205_2, hcz205_3, hcz205_4, hfz205_0⟩ := cz5 BK442
           have hnb206 := NB450_402.out
           have hnc206 := NB402_450.out
           have hnb207 := NB450_403.out
           have hnc207 := NB403_450.out
           have hnb208 := NB450_410.out
           have hnc208 := NB410_450.out
           have hnb209 := NB450_417.out
           have hnc209 := NB417_450.out
           have hnb210 := NB450_434.out
           have hnc210 := NB434_450.out
           have ⟨hcz211_0, hcz211_1, hcz211_2, hcz211_3, hcz211_4, hfz211_0⟩ := cz5 BK450
           go_wp2
           go_meet
           case rel => exact ⟨_, (true), rB, H', ⟨by have := HJ6.out; have := HJ39.out; first | omega | exact Nat.le_refl _⟩, ⟨by (with_reducible repeat (first | apply Kd.R_alloc | apply Kd.R_drewN | apply Kd.R_drew)); exact Kd.R_mono (Kd.R_far (p := ⟨gb450, 4, none⟩) (Kd.R_far (p := ⟨gb450, 3, none⟩) (Kd.R_far (p := ⟨gb450, 2, none⟩) (Kd.R_far (p := ⟨gb450, 1, none⟩) (Kd.R_far (p := ⟨gb450, 0, none⟩) (Kd.R_types HO433.out BK450.out (by decide)) (fun _ hk => hk.2) (.int .i64 t443)) (fun _ hk => hk.2) (.int .i64 t444)) (fun _ hk => hk.2) (.int .i64 t445)) (fun _ hk => hk.2) (.int .i64 t446)) (fun _ hk => hk.2) (.int .i64 t447)) (fun _ hk => hk.1.2)⟩, ⟨by exact pW BK402⟩, ⟨by exact pW BK403⟩, ⟨by exact pW BK410⟩, ⟨by exact pW BK417⟩, ⟨by exact pW BK434⟩, ⟨by exact pW BK442⟩, ⟨by exact pW BK450⟩, (aB HB)⟩
          ·rw [if_neg c198] at H
           have c198b0 : (!(t435 == t443) || (!(t436 == t444) || (!(t437 == t445) || (!(t438 == t446) || (!(t439 == t447)))))) = false := by simpa using c198
           clear c198
           (first | rw [c198b0] | (simp only [i64_w, i32_w]; rw [c198b0]) | skip)
           replace H := ifI H
           rcases H with ⟨H, -, c212b0, c212b1⟩ | ⟨H, c212, c212b0, c212b1⟩
           ·have H' := Aside0.mk H
            clear H
            have hnb213 := NB442_402.out
            have hnc213 := NB402_442.out
            have hnb214 := NB442_403.out
            have hnc214 := NB403_442.out
            have hnb215 := NB442_410.out
            have hnc215 := NB410_442.out
            have hnb216 := NB442_417.out
            have hnc216 := NB417_442.out
            have hnb217 := NB442_434.out
            have hnc217 := NB434_442.out
            have hnb218 := NB442_450.out
            have hnc218 := NB450_442.out
            have ⟨hcz219_0, hcz219_1, hcz219_2, hcz219_3, hcz219_4, hfz219_0⟩ := cz5 BK442
            have hnb220 := NB450_402.out
            have hnc220 := NB402_450.out
            have hnb221 := NB450_403.out
            have hnc221 := NB403_450.out
            have hnb222 := NB450_410.out
            have hnc222 := NB410_450.out
            have hnb223 := NB450_417.out
            have hnc223 := NB417_450.out
            have hnb224 := NB450_434.out
            have hnc224 := NB434_450.out
            have ⟨hcz225_0, hcz225_1, hcz225_2, hcz225_3, hcz225_4, hfz225_0⟩ := cz5 BK450
            go_wp2
            go_meet
            case rel => exact ⟨_, ((t441 != t449)), rB, H', ⟨by have := HJ6.out; have := HJ39.out; first | omega | exact Nat.le_refl _⟩, ⟨by (with_reducible repeat (first | apply Kd.R_alloc | apply Kd.R_drewN | apply Kd.R_drew)); exact Kd.R_mono (Kd.R_far (p := ⟨gb450, 4, none⟩) (Kd.R_far (p := ⟨gb450, 3, none⟩) (Kd.R_far (p := ⟨gb450, 2, none⟩) (Kd.R_far (p := ⟨gb450, 1, none⟩) (Kd.R_far (p := ⟨gb450, 0, none⟩) (Kd.R_types HO433.out BK450.out (by decide)) (fun _ hk => hk.2) (.int .i64 t443)) (fun _ hk => hk.2) (.int .i64 t444)) (fun _ hk => hk.2) (.int .i64 t445)) (fun _ hk => hk.2) (.int .i64 t446)) (fun _ hk => hk.2) (.int .i64 t447)) (fun _ hk => hk.1.2)⟩, ⟨by exact pW BK402⟩, ⟨by exact pW BK403⟩, ⟨by exact pW BK410⟩, ⟨by exact pW BK417⟩, ⟨by exact pW BK434⟩, ⟨by exact pW BK442⟩, ⟨by exact pW BK450⟩, (aB HB)⟩
           ·have H' := Aside0.mk H
            clear H
            have hnb226 := NB442_402.out
            have hnc226 := NB402_442.out
            have hnb227 := NB442_403.out
            have hnc227 := NB403_442.out
            have hnb228 := NB442_410.out
            have hnc228 := NB410_442.out
            have hnb229 := NB442_417.out
            have hnc229 := NB417_442.out
            have hnb230 := NB442_434.out
            have hnc230 := NB434_442.out
            have hnb231 := NB442_450.out
            have hnc231 := NB450_442.out
            have ⟨hcz232_0, hcz232_1, hcz232_2, hcz232_3, hcz232_4, hfz232_0⟩ := cz5 BK442
            have hnb233 := NB450_402.out
            have hnc233 := NB402_450.out
            have hnb234 := NB450_403.out
            have hnc234 := NB403_450.out
            have hnb235 := NB450_410.out
            have hnc235 := NB410_450.out
            have hnb236 := NB450_417.out
            have hnc236 := NB417_450.out
            have hnb237 := NB450_434.out
            have hnc237 := NB434_450.out
            have ⟨hcz238_0, hcz238_1, hcz238_2, hcz238_3, hcz238_4, hfz238_0⟩ := cz5 BK450
            go_wp2
            go_meet
            case rel => exact ⟨_, (true), rB, H', ⟨by have := HJ6.out; have := HJ39.out; first | omega | exact Nat.le_refl _⟩, ⟨by (with_reducible repeat (first | apply Kd.R_alloc | apply Kd.R_drewN | apply Kd.R_drew)); exact Kd.R_mono (Kd.R_far (p := ⟨gb450, 4, none⟩) (Kd.R_far (p := ⟨gb450, 3, none⟩) (Kd.R_far (p := ⟨gb450, 2, none⟩) (Kd.R_far (p := ⟨gb450, 1, none⟩) (Kd.R_far (p := ⟨gb450, 0, none⟩) (Kd.R_types HO433.out BK450.out (by decide)) (fun _ hk => hk.2) (.int .i64 t443)) (fun _ hk => hk.2) (.int .i64 t444)) (fun _ hk => hk.2) (.int .i64 t445)) (fun _ hk => hk.2) (.int .i64 t446)) (fun _ hk => hk.2) (.int .i64 t447)) (fun _ hk => hk.1.2)⟩, ⟨by exact pW BK402⟩, ⟨by exact pW BK403⟩, ⟨by exact pW BK410⟩, ⟨by exact pW BK417⟩, ⟨by exact pW BK434⟩, ⟨by exact pW BK442⟩, ⟨by exact pW BK450⟩, (aB HB)⟩
         case rest =>
          apply Classical.byContradiction
          intro hn_
          letI h_ : (0 : Nat) = 1 := (hn_ (by
           clear hn_
           clear HC171
           try clear hcz12_0
           try clear hcz12_1
           try clear hcz12_2
           try clear hcz12_3
           try clear hcz12_4
           try clear hcz13_0
           try clear hcz13_1
           try clear hcz178_0
           try clear hcz178_1
           try clear hcz178_2
           try clear hcz178_3
           try clear hcz178_4
           try clear hcz187_0
           try clear hcz187_1
           try clear hcz187_2
           try clear hcz187_3
           try clear hcz187_4
           try clear hcz188_0
           try clear hcz188_1
           try clear hcz188_2
           try clear hcz188_3
           try clear hcz188_4
           try clear hcz18_0
           try clear hcz18_1
           try clear hcz18_2
           try clear hcz18_3
           try clear hcz18_4
           try clear hcz197_0
           try clear hcz197_1
           try clear hcz197_2
           try clear hcz197_3
           try clear hcz197_4
           try clear hcz19_0
           try clear hcz19_1
           try clear hcz19_2
           try clear hcz19_3
           try clear hcz19_4
           try clear hcz20_0
           try clear hcz20_1
           try clear hcz26_0
           try clear hcz26_1
           try clear hcz26_2
           try clear hcz26_3
           try clear hcz26_4
           try clear hfz12_0
           try clear hfz13_0
           try clear hfz178_0
           try clear hfz187_0
           try clear hfz188_0
           try clear hfz18_0
           try clear hfz197_0
           try clear hfz19_0
           try clear hfz20_0
           try clear hfz26_0
           obtain ⟨kq, x154_170, rfl, HA, HJ170, HO_12, BK402, BK403, BK410, BK417, BK434, BK442, BK450, HB⟩ := hcut
           cases kq with
           | zero => exact absurd HA.out (by simp [laws_FnTrips.j3])
           | succ kj170 =>
            have H := HA.out
            clear HA
            simp only [laws_FnTrips.j3] at H
            rcases Bool.eq_false_or_eq_true x154_170 with rfl | rfl
            ·replace H := iT rfl H
             exact absurd (Option.some.inj H) (by rw [hT]; decide)
            ·replace H := iF (by decide) H
             have HC240 := Aside0.mk H
             clear H
             go_upto_if 155 with (fail)
             go_cut [] (fun wc => ∃ (kq : Nat), Aside0 (laws_FnTrips.j5 kq l0 = some r) ∧ Aside0 (kq ≤ kj170) ∧ Aside0 (wc.heap[gb402]? = some (.cells #[.int .i64 t395, .int .i64 t396, .int .i64 t397, .int .i64 t398, .int .i64 t399] 25 (0, 0))) ∧ Aside0 (wc.heap[gb403]? = some (.cells #[.int .i64 t400, .int .i64 t401] 49 (0, 0))) ∧ Aside0 (wc.heap[gb410]? = some (.cells #[.int .i64 t404, .int .i64 t405, .int .i64 t406, .int .i64 t407, .int .i64 t408] 25 (0, 0))) ∧ Aside0 (wc.heap[gb417]? = some (.cells #[.int .i64 t411, .int .i64 t412, .int .i64 t413, .int .i64 t414, .int .i64 t415] 25 (0, 0))) ∧ Aside0 (wc.heap[gb434]? = some (.cells #[.int .i64 t426, .int .i64 t427, .int .i64 t428, .int .i64 t429, .int .i64 t430] 25 (0, 0))) ∧ Aside0 (wc.heap[gb442]? = some (.cells #[.int .i64 t435, .int .i64 t436, .int .i64 t437, .int .i64 t438, .int .i64 t439] 25 (0, 0))) ∧ Aside0 (wc.heap[gb450]? = some (.cells #[.int .i64 t443, .int .i64 t444, .int .i64 t445, .int .i64 t446, .int .i64 t447] 25 (0, 0))) ∧ Aside0 (Below w.heap.size w wc))
             case first =>
              have H := HC240.out
              clear HC240
              rcases Bool.eq_false_or_eq_true t441 with rfl | rfl
              ·replace H := iT rfl H
               have H' := Aside0.mk H
               clear H
               have hnb242 := NB434_402.out
               have hnc242 := NB402_434.out
               have hnb243 := NB434_403.out
               have hnc243 := NB403_434.out
               have hnb244 := NB434_410.out
               have hnc244 := NB410_434.out
               have hnb245 := NB434_417.out
               have hnc245 := NB417_434.out
               have hnb246 := NB434_442.out
               have hnc246 := NB442_434.out
               have hnb247 := NB434_450.out
               have hnc247 := NB450_434.out
               have ⟨hcz248_0, hcz248_1, hcz248_2, hcz248_3, hcz248_4, hfz248_0⟩ := cz5 BK434
               go_wp2_with (first | ((with_reducible refine gD 19 ?_); refine bxE 19 25 #[.int .i64 0, .int .i64 0, .int .i64 0, .int .i64 0, .int .i64 0] fun gb451 w249 hg hbox hb => ?_; have BK451 := Aside0.mk hbox; have GE451 := gB HB hg; have ⟨NB402_451, NB451_402⟩ := nB BK402 hg; have ⟨NB403_451, NB451_403⟩ := nB BK403 hg; have ⟨NB410_451, NB451_410⟩ := nB BK410 hg; have ⟨NB417_451, NB451_417⟩ := nB BK417 hg; have ⟨NB434_451, NB451_434⟩ := nB BK434 hg; have ⟨NB442_451, NB451_442⟩ := nB BK442 hg; have ⟨NB450_451, NB451_450⟩ := nB BK450 hg; replace HO_12 := uR HO_12 hb; replace BK402 := uK BK402 hb; replace BK403 := uK BK403 hb; replace BK410 := uK BK410 hb; replace BK417 := uK BK417 hb; replace BK434 := uK BK434 hb; replace BK442 := uK BK442 hb; replace BK450 := uK BK450 hb; replace HB := uB HB hb; clear hb hbox hg; have hnb250 := NB451_402.out; have hnc250 := NB402_451.out; have hnb251 := NB451_403.out; have hnc251 := NB403_451.out; have hnb252 := NB451_410.out; have hnc252 := NB410_451.out; have hnb253 := NB451_417.out; have hnc253 := NB417_451.out; have hnb254 := NB451_434.out; have hnc254 := NB434_451.out; have hnb255 := NB451_442.out; have hnc255 := NB442_451.out; have hnb256 := NB451_450.out; have hnc256 := NB450_451.out; have ⟨hcz257_0, hcz257_1, hcz257_2, hcz257_3, hcz257_4, hfz257_0⟩ := cz5 BK451))
               (try simp only [Act.put, List.setIfInBounds_toArray, List.set_cons_zero, List.set_cons_succ])
               go_loopg [20, 21] kj170 (fun kq v20 v21 w' => ∃ (x20_4 x21_4 x452000_4 x452001_4 x452002_4 x452003_4 x452004_4 : Int), v20 = .int .i64 x20_4 ∧ v21 = .int .i64 x21_4 ∧ Aside0 (laws_FnTrips.l0 kq l0 t431 t440 x20_4 x21_4 t435 t436 t437 t438 t439 x452000_4 x452001_4 x452002_4 x452003_4 x452004_4 = some r) ∧ Aside0 (kq ≤ kj170) ∧ Aside0 (Kd.R k49 49 w' w.heap.size (fun k_ => k_ ≠ gb403) (.slice Ao179 t431.length co179) t431) ∧ Aside0 (w'.heap[gb402]? = some (.cells #[.int .i64 t395, .int .i64 t396, .int .i64 t397, .int .i64 t398, .int .i64 t399] 25 (0, 0))) ∧ Aside0 (w'.heap[gb403]? = some (.cells #[.int .i64 t400, .int .i64 t401] 49 (0, 0))) ∧ Aside0 (w'.heap[gb410]? = some (.cells #[.int .i64 t404, .int .i64 t405, .int .i64 t406, .int .i64 t407, .int .i64 t408] 25 (0, 0))) ∧ Aside0 (w'.heap[gb417]? = some (.cells #[.int .i64 t411, .int .i64 t412, .int .i64 t413, .int .i64 t414, .int .i64 t415] 25 (0, 0))) ∧ Aside0 (w'.heap[gb434]? = some (.cells #[.int .i64 t426, .int .i64 t427, .int .i64 t428, .int .i64 t429, .int .i64 t430] 25 (0, 0))) ∧ Aside0 (w'.heap[gb442]? = some (.cells #[.int .i64 t435, .int .i64 t436, .int .i64 t437, .int .i64 t438, .int .i64 t439] 25 (0, 0))) ∧ Aside0 (w'.heap[gb450]? = some (.cells #[.int .i64 t443, .int .i64 t444, .int .i64 t445, .int .i64 t446, .int .i64 t447] 25 (0, 0))) ∧ Aside0 (w'.heap[gb451]? = some (.cells #[.int .i64 x452000_4, .int .i64 x452001_4, .int .i64 x452002_4, .int .i64 x452003_4, .int .i64 x452004_4] 25 (0, 0))) ∧ Aside0 (Below w.heap.size w w'))
               case atStart => exact ⟨(0), (0), (t426), (t427), (t428), (t429), (t430), rB, rB, H', ⟨Nat.le_refl _⟩, ⟨by (with_reducible repeat (first | apply Kd.R_alloc | apply Kd.R_drewN | apply Kd.R_drew)); exact Kd.R_mono (Kd.R_far (p := ⟨gb451, 4, none⟩) (Kd.R_far (p := ⟨gb451, 3, none⟩) (Kd.R_far (p := ⟨gb451, 2, none⟩) (Kd.R_far (p := ⟨gb451, 1, none⟩) (Kd.R_far (p := ⟨gb451, 0, none⟩) (Kd.R_types HO_12.out BK451.out (by decide)) (fun _ hk => hk.2) (.int .i64 t426)) (fun _ hk => hk.2) (.int .i64 t427)) (fun _ hk => hk.2) (.int .i64 t428)) (fun _ hk => hk.2) (.int .i64 t429)) (fun _ hk => hk.2) (.int .i64 t430)) (fun _ hk => hk.1)⟩, ⟨by exact pW BK402⟩, ⟨by exact pW BK403⟩, ⟨by exact pW BK410⟩, ⟨by exact pW BK417⟩, ⟨by exact pW BK434⟩, ⟨by exact pW BK442⟩, ⟨by exact pW BK450⟩, ⟨by exact pW BK451⟩, (aB HB)⟩
               case round =>
                apply Classical.byContradiction
                intro hn_
                letI h_ : (0 : Nat) = 1 := (hn_ (by
                 clear hn_
                 clear H'
                 try clear hcz12_0
                 try clear hcz12_1
                 try clear hcz12_2
                 try clear hcz12_3
                 try clear hcz12_4
                 try clear hcz13_0
                 try clear hcz13_1
                 try clear hcz178_0
                 try clear hcz178_1
                 try clear hcz178_2
                 try clear hcz178_3
                 try clear hcz178_4
                 try clear hcz187_0
                 try clear hcz187_1
                 try clear hcz187_2
                 try clear hcz187_3
                 try clear hcz187_4
                 try clear hcz188_0
                 try clear hcz188_1
                 try clear hcz188_2
                 try clear hcz188_3
                 try clear hcz188_4
                 try clear hcz18_0
                 try clear hcz18_1
                 try clear hcz18_2
                 try clear hcz18_3
                 try clear hcz18_4
                 try clear hcz197_0
                 try clear hcz197_1
                 try clear hcz197_2
                 try clear hcz197_3
                 try clear hcz197_4
                 try clear hcz19_0
                 try clear hcz19_1
                 try clear hcz19_2
                 try clear hcz19_3
                 try clear hcz19_4
                 try clear hcz20_0
                 try clear hcz20_1
                 try clear hcz248_0
                 try clear hcz248_1
                 try clear hcz248_2
                 try clear hcz248_3
                 try clear hcz248_4
                 try clear hcz257_0
                 try clear hcz257_1
                 try clear hcz257_2
                 try clear hcz257_3
                 try clear hcz257_4
                 try clear hcz26_0
                 try clear hcz26_1
                 try clear hcz26_2
                 try clear hcz26_3
                 try clear hcz26_4
                 try clear hfz12_0
                 try clear hfz13_0
                 try clear hfz178_0
                 try clear hfz187_0
                 try clear hfz188_0
                 try clear hfz18_0
                 try clear hfz197_0
                 try clear hfz19_0
                 try clear hfz20_0
                 try clear hfz248_0
                 try clear hfz257_0
                 try clear hfz26_0
                 obtain ⟨x20_4, x21_4, x452000_4, x452001_4, x452002_4, x452003_4, x452004_4, rfl, rfl, HA, HK4, HO_12, BK402, BK403, BK410, BK417, BK434, BK442, BK450, BK451, HB⟩ := hrel
                 cases gk with
                 | zero => exact absurd HA.out (by simp [laws_FnTrips.l0])
                 | succ k4 =>
                  have H := HA.out
                  clear HA
                  simp only [laws_FnTrips.l0] at H
                  replace H := ifD H
                  rcases H with ⟨H, -, c258b0⟩ | ⟨H, -, c258b0⟩
                  ·(first | rw [c258b0] | (simp only [i64_w, i32_w]; rw [c258b0]) | skip)
                   by_cases c259 : 0 ≤ x21_4
                   ·rw [if_pos c259] at H
                    have c259b0 : decide (0 ≤ x21_4) = true := decide_eq_true c259
                    clear c259
                    replace H := Option.bind_eq_some_iff.mp H
                    obtain ⟨⟨t453, t454, t455, t456, t457, t458⟩, A2600, H⟩ := H
                    replace H : (if t458 = true then (laws_FnTrips.l0 k4 l0 t431 t440 (wrap64 (x20_4 + 1)) (wrap64 (x21_4 + 1)) t435 t436 t437 t438 t439 t453 t454 t455 t456 t457) else (laws_FnTrips.l0 k4 l0 t431 t440 x20_4 (wrap64 (x21_4 + 1)) t435 t436 t437 t438 t439 x452000_4 x452001_4 x452002_4 x452003_4 x452004_4)) = some r := H
                    have A260 := Aside0.mk A2600
                    clear A2600
                    rcases Bool.eq_false_or_eq_true t458 with rfl | rfl
                    ·replace H := iT rfl H
                     have H' := Aside0.mk H
                     clear H
                     try go_wp2
                     replace HO_12 := Aside0.mk (Kd.R_drew HO_12.out)
                     replace BK402 := dK BK402
                     replace BK403 := dK BK403
                     replace BK410 := dK BK410
                     replace BK417 := dK BK417
                     replace BK434 := dK BK434
                     replace BK442 := dK BK442
                     replace BK450 := dK BK450
                     replace BK451 := dK BK451
                     replace HB := Aside0.mk (below_drew1 HB.out)
                     have p452 : 0 ≤ (x21_4 : Int) := of_decide_eq_true asmB
                     have q452 : x21_4 < (t431.length : Int) := of_decide_eq_true asmB
                     obtain ⟨ad452, e452, hx452_0, hx452_1⟩ := at_T49 (Kd.R_reads' HO_12.out).2.2 x21_4 p452 q452
                     cases e452
                     replace p452 := eq_true p452
                     replace q452 := eq_true q452
                     refine sA (n := 12) (S := fun w' => w'.cell? ⟨gb451, 0, none⟩ = some (.int .i64 x452000_4) ∧ w'.cell? ⟨gb451, 1, none⟩ = some (.int .i64 x452001_4) ∧ w'.cell? ⟨gb451, 2, none⟩ = some (.int .i64 x452002_4) ∧ w'.cell? ⟨gb451, 3, none⟩ = some (.int .i64 x452003_4) ∧ w'.cell? ⟨gb451, 4, none⟩ = some (.int .i64 x452004_4) ∧ w'.cell? (ad452.add ((x21_4).toNat * 2)) = some (.int .i64 ((rd_T49 t431 x21_4).f0)) ∧ w'.cell? ⟨(ad452.add ((x21_4).toNat * 2)).block, (ad452.add ((x21_4).toNat * 2)).off + 1, none⟩ = some (.int .i64 ((rd_T49 t431 x21_4).f1))) (ds := []) laws_FnTrips.tab24 laws_FnTrips.bits24 #[false, false, false, false, false, false, false, false, false, false, false, false] ⟨cb BK451 0, cb BK451 1, cb BK451 2, cb BK451 3, cb BK451 4, hx452_0, hx452_1⟩ fun hHeld HT_ HW_ => ?_
                     generalize wr.drew = w262 at HO_12 BK402 BK403 BK410 BK417 BK434 BK442 BK450 BK451 HB hx452_0 hx452_1 hHeld ⊢
                     refine pA 1 165 HT_ ?_
                     refine pA 2 166 HT_ ?_
                     refine pA 3 167 HT_ ?_
                     refine tA 0 164 HT_ HW_ hHeld ?_
                     refine tA 4 168 HT_ HW_ hHeld ?_
                     refine join_ (σ := Nat) 2 #[true, true, true, true, true, true, true, true, true, true, false, false] (fun s_ => [(169, .tuple #[.agg #[.int .i64 t453, .int .i64 t454, .int .i64 t455, .int .i64 t456, .int .i64 t457], .bool true]), (22, .pointer (some ⟨s_, 0, none⟩)), (163, .tuple #[.agg #[.int .i64 t453, .int .i64 t454, .int .i64 t455, .int .i64 t456, .int .i64 t457], .bool true]), (170, .agg #[.int .i64 t453, .int .i64 t454, .int .i64 t455, .int .i64 t456, .int .i64 t457]), (171, .bool true)]) (fun s_ w' => (w'.cell? ⟨gb451, 0, none⟩ = some (.int .i64 x452000_4) ∧ w'.cell? ⟨gb451, 1, none⟩ = some (.int .i64 x452001_4) ∧ w'.cell? ⟨gb451, 2, none⟩ = some (.int .i64 x452002_4) ∧ w'.cell? ⟨gb451, 3, none⟩ = some (.int .i64 x452003_4) ∧ w'.cell? ⟨gb451, 4, none⟩ = some (.int .i64 x452004_4) ∧ w'.cell? (ad452.add ((x21_4).toNat * 2)) = some (.int .i64 ((rd_T49 t431 x21_4).f0)) ∧ w'.cell? ⟨(ad452.add ((x21_4).toNat * 2)).block, (ad452.add ((x21_4).toNat * 2)).off + 1, none⟩ = some (.int .i64 ((rd_T49 t431 x21_4).f1))) ∧ (Kd.R k49 49 w' w.heap.size (fun k_ => k_ ≠ gb403) (.slice (some ad452) t431.length co179) t431) ∧ (w'.heap[gb402]? = some (.cells #[.int .i64 t395, .int .i64 t396, .int .i64 t397, .int .i64 t398, .int .i64 t399] 25 (0, 0))) ∧ (w'.heap[gb403]? = some (.cells #[.int .i64 t400, .int .i64 t401] 49 (0, 0))) ∧ (w'.heap[gb410]? = some (.cells #[.int .i64 t404, .int .i64 t405, .int .i64 t406, .int .i64 t407, .int .i64 t408] 25 (0, 0))) ∧ (w'.heap[gb417]? = some (.cells #[.int .i64 t411, .int .i64 t412, .int .i64 t413, .int .i64 t414, .int .i64 t415] 25 (0, 0))) ∧ (w'.heap[gb434]? = some (.cells #[.int .i64 t426, .int .i64 t427, .int .i64 t428, .int .i64 t429, .int .i64 t430] 25 (0, 0))) ∧ (w'.heap[gb442]? = some (.cells #[.int .i64 t435, .int .i64 t436, .int .i64 t437, .int .i64 t438, .int .i64 t439] 25 (0, 0))) ∧ (w'.heap[gb450]? = some (.cells #[.int .i64 t443, .int .i64 t444, .int .i64 t445, .int .i64 t446, .int .i64 t447] 25 (0, 0))) ∧ (w'.heap[gb451]? = some (.cells #[.int .i64 x452000_4, .int .i64 x452001_4, .int .i64 x452002_4, .int .i64 x452003_4, .int .i64 x452004_4] 25 (0, 0))) ∧ (w'.heap[s_]? = some (.cells #[.int .i64 0, .int .i64 0, .int .i64 0, .int .i64 0, .int .i64 0] 25 (0, 0))) ∧ (w.heap.size ≤ s_) ∧ (w.heap.size ≤ s_) ∧ (gb402 ≠ s_) ∧ (s_ ≠ gb402) ∧ (gb403 ≠ s_) ∧ (s_ ≠ gb403) ∧ (gb410 ≠ s_) ∧ (s_ ≠ gb410) ∧ (gb417 ≠ s_) ∧ (s_ ≠ gb417) ∧ (gb434 ≠ s_) ∧ (s_ ≠ gb434) ∧ (gb442 ≠ s_) ∧ (s_ ≠ gb442) ∧ (gb450 ≠ s_) ∧ (s_ ≠ gb450) ∧ (gb451 ≠ s_) ∧ (s_ ≠ gb451) ∧ (Below w.heap.size w w')) ?_ ?_
                     rotate_left
                     ·intro hCont
                      refine two_ (i := 5) (j := 9) (Ni := some 169) (Nj := some 22) #[true, true, true, true, true, true, false, false, false, false, false, false] #[true, true, true, true, true, false, false, false, false, true, false, false] rfl rfl rfl rfl (two_of HT_.out (by kernel_rfl)) (by decide) (by decide) (fun K hK => ?_) (fun K hK => ?_)
                      ·skip
                       refine goes_ Try.func31 (by kernel_rfl) rfl #[.agg #[.int .i64 x452000_4, .int .i64 x452001_4, .int .i64 x452002_4, .int .i64 x452003_4, .int .i64 x452004_4], .agg #[.int .i64 ((rd_T49 t431 x21_4).f0), .int .i64 ((rd_T49 t431 x21_4).f1)]] (by rfl) rfl rfl argsB ?_
                       with_reducible refine (impl_StepTrip.calls k4 x452000_4 x452001_4 x452002_4 x452003_4 x452004_4 ((rd_T49 t431 x21_4).f0) ((rd_T49 t431 x21_4).f1) t453 t454 t455 t456 t457 true _ A260.out).mono ?_
                       rintro e w263 ⟨rfl, hb⟩
                       have HS5_ := (hb.cell (World.block_lt_of_cell? _ _ (hHeld.2.2.2.2.2.1))).trans (hHeld.2.2.2.2.2.1)
                       have HS6_ := (hb.cell (World.block_lt_of_cell? _ _ (hHeld.2.2.2.2.2.2))).trans (hHeld.2.2.2.2.2.2)
                       refine ⟨_, rfl, ?_⟩
                       replace HO_12 := uR HO_12 hb
                       replace BK402 := uK BK402 hb
                       replace BK403 := uK BK403 hb
                       replace BK410 := uK BK410 hb
                       replace BK417 := uK BK417 hb
                       replace BK434 := uK BK434 hb
                       replace BK442 := uK BK442 hb
                       replace BK450 := uK BK450 hb
                       replace BK451 := uK BK451 hb
                       replace HB := uB HB hb
                       (try clear hb)
                       (try clear hk)
                       refine hK.out _ _ ⟨cb BK451 0, cb BK451 1, cb BK451 2, cb BK451 3, cb BK451 4, HS5_, HS6_⟩ (fun hHeld => ?_)
                       clear hK K
                       refine nA ?_ (some 169)
                       refine pA 6 163 HT_ ?_
                       refine pA 7 170 HT_ ?_
                       refine pA 8 171 HT_ ?_
                       refine oA 9 (some 22) HT_ fun K hK => ?_
                       refine box_step ?hg (N := 22) ?hd (cs := #[.int .i64 0, .int .i64 0, .int .i64 0, .int .i64 0, .int .i64 0]) (t := 25) ?hr ?_; (case hd => rfl); (case hg => rfl); (case hr => first | (go_simp; done) | (go_simp; rfl))
                       intro gb459 hg w264 hbox hb
                       have HS5_ := (hb.cell (World.block_lt_of_cell? _ _ (hHeld.2.2.2.2.2.1))).trans (hHeld.2.2.2.2.2.1)
                       have HS6_ := (hb.cell (World.block_lt_of_cell? _ _ (hHeld.2.2.2.2.2.2))).trans (hHeld.2.2.2.2.2.2)
                       have BK459 := Aside0.mk hbox
                       have GE459 := gB HB hg
                       have ⟨NB402_459, NB459_402⟩ := nB BK402 hg
                       have ⟨NB403_459, NB459_403⟩ := nB BK403 hg
                       have ⟨NB410_459, NB459_410⟩ := nB BK410 hg
                       have ⟨NB417_459, NB459_417⟩ := nB BK417 hg
                       have ⟨NB434_459, NB459_434⟩ := nB BK434 hg
                       have ⟨NB442_459, NB459_442⟩ := nB BK442 hg
                       have ⟨NB450_459, NB459_450⟩ := nB BK450 hg
                       have ⟨NB451_459, NB459_451⟩ := nB BK451 hg
                       replace HO_12 := uR HO_12 hb
                       replace BK402 := uK BK402 hb
                       replace BK403 := uK BK403 hb
                       replace BK410 := uK BK410 hb
                       replace BK417 := uK BK417 hb
                       replace BK434 := uK BK434 hb
                       replace BK442 := uK BK442 hb
                       replace BK450 := uK BK450 hb
                       replace BK451 := uK BK451 hb
                       replace HB := uB HB hb
                       clear hb hbox hg
                       refine hK.out _ _ ⟨cb BK451 0, cb BK451 1, cb BK451 2, cb BK451 3, cb BK451 4, HS5_, HS6_⟩ (fun hHeld => ?_)
                       clear hK K
                       refine nA ?_ (some 22)
                       exact norm_ (by simp only [putAll, Act.put, List.setIfInBounds_toArray, List.set_cons_zero, List.set_cons_succ]) (hCont (gb459) _ ⟨hHeld, (upR HO_12.out), (upK BK402.out), (upK BK403.out), (upK BK410.out), (upK BK417.out), (upK BK434.out), (upK BK442.out), (upK BK450.out), (upK BK451.out), (upK BK459.out), GE459.out, GE459.out, NB402_459.out, NB459_402.out, NB403_459.out, NB459_403.out, NB410_459.out, NB459_410.out, NB417_459.out, NB459_417.out, NB434_459.out, NB459_434.out, NB442_459.out, NB459_442.out, NB450_459.out, NB459_450.out, NB451_459.out, NB459_451.out, (bW HB)⟩)
                      ·skip
                       refine box_step ?hg (N := 22) ?hd (cs := #[.int .i64 0, .int .i64 0, .int .i64 0, .int .i64 0, .int .i64 0]) (t := 25) ?hr ?_; (case hd => rfl); (case hg => rfl); (case hr => first | (go_simp; done) | (go_simp; rfl))
                       intro gb459 hg w263 hbox hb
                       have HS5_ := (hb.cell (World.block_lt_of_cell? _ _ (hHeld.2.2.2.2.2.1))).trans (hHeld.2.2.2.2.2.1)
                       have HS6_ := (hb.cell (World.block_lt_of_cell? _ _ (hHeld.2.2.2.2.2.2))).trans (hHeld.2.2.2.2.2.2)
                       have BK459 := Aside0.mk hbox
                       have GE459 := gB HB hg
                       have ⟨NB402_459, NB459_402⟩ := nB BK402 hg
                       have ⟨NB403_459, NB459_403⟩ := nB BK403 hg
                       have ⟨NB410_459, NB459_410⟩ := nB BK410 hg
                       have ⟨NB417_459, NB459_417⟩ := nB BK417 hg
                       have ⟨NB434_459, NB459_434⟩ := nB BK434 hg
                       have ⟨NB442_459, NB459_442⟩ := nB BK442 hg
                       have ⟨NB450_459, NB459_450⟩ := nB BK450 hg
                       have ⟨NB451_459, NB459_451⟩ := nB BK451 hg
                       replace HO_12 := uR HO_12 hb
                       replace BK402 := uK BK402 hb
                       replace BK403 := uK BK403 hb
                       replace BK410 := uK BK410 hb
                       replace BK417 := uK BK417 hb
                       replace BK434 := uK BK434 hb
                       replace BK442 := uK BK442 hb
                       replace BK450 := uK BK450 hb
                       replace BK451 := uK BK451 hb
                       replace HB := uB HB hb
                       clear hb hbox hg
                       refine hK.out _ _ ⟨cb BK451 0, cb BK451 1, cb BK451 2, cb BK451 3, cb BK451 4, HS5_, HS6_⟩ (fun hHeld => ?_)
                       clear hK K
                       refine nA ?_ (some 22)
                       refine oA 5 (some 169) HT_ fun K hK => ?_
                       refine goes_ Try.func31 (by kernel_rfl) rfl #[.agg #[.int .i64 x452000_4, .int .i64 x452001_4, .int .i64 x452002_4, .int .i64 x452003_4, .int .i64 x452004_4], .agg #[.int .i64 ((rd_T49 t431 x21_4).f0), .int .i64 ((rd_T49 t431 x21_4).f1)]] (by rfl) rfl rfl argsB ?_
                       with_reducible refine (impl_StepTrip.calls k4 x452000_4 x452001_4 x452002_4 x452003_4 x452004_4 ((rd_T49 t431 x21_4).f0) ((rd_T49 t431 x21_4).f1) t453 t454 t455 t456 t457 true _ A260.out).mono ?_
                       rintro e w264 ⟨rfl, hb⟩
                       have HS5_ := (hb.cell (World.block_lt_of_cell? _ _ (hHeld.2.2.2.2.2.1))).trans (hHeld.2.2.2.2.2.1)
                       have HS6_ := (hb.cell (World.block_lt_of_cell? _ _ (hHeld.2.2.2.2.2.2))).trans (hHeld.2.2.2.2.2.2)
                       refine ⟨_, rfl, ?_⟩
                       replace HO_12 := uR HO_12 hb
                       replace BK402 := uK BK402 hb
                       replace BK403 := uK BK403 hb
                       replace BK410 := uK BK410 hb
                       replace BK417 := uK BK417 hb
                       replace BK434 := uK BK434 hb
                       replace BK442 := uK BK442 hb
                       replace BK450 := uK BK450 hb
                       replace BK451 := uK BK451 hb
                       replace BK459 := uK BK459 hb
                       replace HB := uB HB hb
                       (try clear hb)
                       (try clear hk)
                       refine hK.out _ _ ⟨cb BK451 0, cb BK451 1, cb BK451 2, cb BK451 3, cb BK451 4, HS5_, HS6_⟩ (fun hHeld => ?_)
                       clear hK K
                       refine nA ?_ (some 169)
                       refine pA 6 163 HT_ ?_
                       refine pA 7 170 HT_ ?_
                       refine pA 8 171 HT_ ?_
                       exact norm_ (by simp only [putAll, Act.put, List.setIfInBounds_toArray, List.set_cons_zero, List.set_cons_succ]) (hCont (gb459) _ ⟨hHeld, (upR HO_12.out), (upK BK402.out), (upK BK403.out), (upK BK410.out), (upK BK417.out), (upK BK434.out), (upK BK442.out), (upK BK450.out), (upK BK451.out), (upK BK459.out), GE459.out, GE459.out, NB402_459.out, NB459_402.out, NB403_459.out, NB459_403.out, NB410_459.out, NB459_410.out, NB417_459.out, NB459_417.out, NB434_459.out, NB459_434.out, NB442_459.out, NB459_442.out, NB450_459.out, NB459_450.out, NB451_459.out, NB459_451.out, (bW HB)⟩)
                     rintro gb459 w265 ⟨hS_, h0_, h1_, h2_, h3_, h4_, h5_, h6_, h7_, h8_, h9_, h10_, h11_, h12_, h13_, h14_, h15_, h16_, h17_, h18_, h19_, h20_, h21_, h22_, h23_, h24_, h25_, h26_, h27_, h28_⟩
                     have n0_ : Aside0 (Kd.R k49 49 w265 w.heap.size (fun k_ => k_ ≠ gb403) (.slice (some ad452) t431.length co179) t431) := ⟨h0_⟩
                     have n1_ : Aside0 (w265.heap[gb402]? = some (.cells #[.int .i64 t395, .int .i64 t396, .int .i64 t397, .int .i64 t398, .int .i64 t399] 25 (0, 0))) := ⟨h1_⟩
                     have n2_ : Aside0 (w265.heap[gb403]? = some (.cells #[.int .i64 t400, .int .i64 t401] 49 (0, 0))) := ⟨h2_⟩
                     have n3_ : Aside0 (w265.heap[gb410]? = some (.cells #[.int .i64 t404, .int .i64 t405, .int .i64 t406, .int .i64 t407, .int .i64 t408] 25 (0, 0))) := ⟨h3_⟩
                     have n4_ : Aside0 (w265.heap[gb417]? = some (.cells #[.int .i64 t411, .int .i64 t412, .int .i64 t413, .int .i64 t414, .int .i64 t415] 25 (0, 0))) := ⟨h4_⟩
                     have n5_ : Aside0 (w265.heap[gb434]? = some (.cells #[.int .i64 t426, .int .i64 t427, .int .i64 t428, .int .i64 t429, .int .i64 t430] 25 (0, 0))) := ⟨h5_⟩
                     have n6_ : Aside0 (w265.heap[gb442]? = some (.cells #[.int .i64 t435, .int .i64 t436, .int .i64 t437, .int .i64 t438, .int .i64 t439] 25 (0, 0))) := ⟨h6_⟩
                     have n7_ : Aside0 (w265.heap[gb450]? = some (.cells #[.int .i64 t443, .int .i64 t444, .int .i64 t445, .int .i64 t446, .int .i64 t447] 25 (0, 0))) := ⟨h7_⟩
                     have n8_ : Aside0 (w265.heap[gb451]? = some (.cells #[.int .i64 x452000_4, .int .i64 x452001_4, .int .i64 x452002_4, .int .i64 x452003_4, .int .i64 x452004_4] 25 (0, 0))) := ⟨h8_⟩
                     have n9_ : Aside0 (w265.heap[gb459]? = some (.cells #[.int .i64 0, .int .i64 0, .int .i64 0, .int .i64 0, .int .i64 0] 25 (0, 0))) := ⟨h9_⟩
                     have n10_ : Aside0 (w.heap.size ≤ gb459) := ⟨h10_⟩
                     have n11_ : Aside0 (w.heap.size ≤ gb459) := ⟨h11_⟩
                     have n12_ : Aside0 (gb402 ≠ gb459) := ⟨h12_⟩
                     have n13_ : Aside0 (gb459 ≠ gb402) := ⟨h13_⟩
                     have n14_ : Aside0 (gb403 ≠ gb459) := ⟨h14_⟩
                     have n15_ : Aside0 (gb459 ≠ gb403) := ⟨h15_⟩
                     have n16_ : Aside0 (gb410 ≠ gb459) := ⟨h16_⟩
                     have n17_ : Aside0 (gb459 ≠ gb410) := ⟨h17_⟩
                     have n18_ : Aside0 (gb417 ≠ gb459) := ⟨h18_⟩
                     have n19_ : Aside0 (gb459 ≠ gb417) := ⟨h19_⟩
                     have n20_ : Aside0 (gb434 ≠ gb459) := ⟨h20_⟩
                     have n21_ : Aside0 (gb459 ≠ gb434) := ⟨h21_⟩
                     have n22_ : Aside0 (gb442 ≠ gb459) := ⟨h22_⟩
                     have n23_ : Aside0 (gb459 ≠ gb442) := ⟨h23_⟩
                     have n24_ : Aside0 (gb450 ≠ gb459) := ⟨h24_⟩
                     have n25_ : Aside0 (gb459 ≠ gb450) := ⟨h25_⟩
                     have n26_ : Aside0 (gb451 ≠ gb459) := ⟨h26_⟩
                     have n27_ : Aside0 (gb459 ≠ gb451) := ⟨h27_⟩
                     have n28_ : Aside0 (Below w.heap.size w w265) := ⟨h28_⟩
                     clear HO_12
                     clear BK402
                     clear BK403
                     clear BK410
                     clear BK417
                     clear BK434
                     clear BK442
                     clear BK450
                     clear BK451
                     clear HB
                     clear h0_ h1_ h2_ h3_ h4_ h5_ h6_ h7_ h8_ h9_ h10_ h11_ h12_ h13_ h14_ h15_ h16_ h17_ h18_ h19_ h20_ h21_ h22_ h23_ h24_ h25_ h26_ h27_ h28_
                     have HO_12 := n0_
                     have BK402 := n1_
                     have BK403 := n2_
                     have BK410 := n3_
                     have BK417 := n4_
                     have BK434 := n5_
                     have BK442 := n6_
                     have BK450 := n7_
                     have BK451 := n8_
                     have BK459 := n9_
                     have GE459 := n10_
                     have GE459 := n11_
                     have NB402_459 := n12_
                     have NB459_402 := n13_
                     have NB403_459 := n14_
                     have NB459_403 := n15_
                     have NB410_459 := n16_
                     have NB459_410 := n17_
                     have NB417_459 := n18_
                     have NB459_417 := n19_
                     have NB434_459 := n20_
                     have NB459_434 := n21_
                     have NB442_459 := n22_
                     have NB459_442 := n23_
                     have NB450_459 := n24_
                     have NB459_450 := n25_
                     have NB451_459 := n26_
                     have NB459_451 := n27_
                     have HB := n28_
                     clear n0_ n1_ n2_ n3_ n4_ n5_ n6_ n7_ n8_ n9_ n10_ n11_ n12_ n13_ n14_ n15_ n16_ n17_ n18_ n19_ n20_ n21_ n22_ n23_ n24_ n25_ n26_ n27_ n28_
                     have hHeld : w265.cell? ⟨gb451, 0, none⟩ = some (.int .i64 x452000_4) ∧ w265.cell? ⟨gb451, 1, none⟩ = some (.int .i64 x452001_4) ∧ w265.cell? ⟨gb451, 2, none⟩ = some (.int .i64 x452002_4) ∧ w265.cell? ⟨gb451, 3, none⟩ = some (.int .i64 x452003_4) ∧ w265.cell? ⟨gb451, 4, none⟩ = some (.int .i64 x452004_4) ∧ w265.cell? (ad452.add ((x21_4).toNat * 2)) = some (.int .i64 ((rd_T49 t431 x21_4).f0)) ∧ w265.cell? ⟨(ad452.add ((x21_4).toNat * 2)).block, (ad452.add ((x21_4).toNat * 2)).off + 1, none⟩ = some (.int .i64 ((rd_T49 t431 x21_4).f1)) := hS_
                     refine norm_ (a' := ?_) ?_ ?_
                     rotate_left
                     ·simp only [putAll, Act.put, List.setIfInBounds_toArray, List.set_cons_zero, List.set_cons_succ]
                      rfl
                     refine oA 10 none HT_ fun K hK => ?_
                     have hs266 := ci BK459.out 0 0 rfl
                     have hfs266 := blk_frozen BK459.out 0
                     have hns266_0 := NB402_459.out
                     have hns266_1 := NB403_459.out
                     have hns266_2 := NB410_459.out
                     have hns266_3 := NB417_459.out
                     have hns266_4 := NB434_459.out
                     have hns266_5 := NB442_459.out
                     have hns266_6 := NB450_459.out
                     have hns266_7 := NB451_459.out
                     have hms266_0 := NB459_402.out
                     have hms266_1 := NB459_403.out
                     have hms266_2 := NB459_410.out
                     have hms266_3 := NB459_417.out
                     have hms266_4 := NB459_434.out
                     have hms266_5 := NB459_442.out
                     have hms266_6 := NB459_450.out
                     have hms266_7 := NB459_451.out
                     have hs267 := ci BK459.out 1 0 rfl
                     have hfs267 := blk_frozen BK459.out 1
                     have hs268 := ci BK459.out 2 0 rfl
                     have hfs268 := blk_frozen BK459.out 2
                     have hs269 := ci BK459.out 3 0 rfl
                     have hfs269 := blk_frozen BK459.out 3
                     have hs270 := ci BK459.out 4 0 rfl
                     have hfs270 := blk_frozen BK459.out 4
                     refine skip_ (w1 := ?_) (by rfl) rfl ?_ ?_
                     rotate_left
                     ·go_simp
                      rfl
                     refine hK.out _ _ ⟨((cell_far (p := ⟨gb459, _, none⟩) NB451_459.out _).trans (((cell_far (p := ⟨gb459, _, none⟩) NB451_459.out _).trans (((cell_far (p := ⟨gb459, _, none⟩) NB451_459.out _).trans (((cell_far (p := ⟨gb459, _, none⟩) NB451_459.out _).trans (((cell_far (p := ⟨gb459, _, none⟩) NB451_459.out _).trans (hHeld.1)))))))))), ((cell_far (p := ⟨gb459, _, none⟩) NB451_459.out _).trans (((cell_far (p := ⟨gb459, _, none⟩) NB451_459.out _).trans (((cell_far (p := ⟨gb459, _, none⟩) NB451_459.out _).trans (((cell_far (p := ⟨gb459, _, none⟩) NB451_459.out _).trans (((cell_far (p := ⟨gb459, _, none⟩) NB451_459.out _).trans (hHeld.2.1)))))))))), ((cell_far (p := ⟨gb459, _, none⟩) NB451_459.out _).trans (((cell_far (p := ⟨gb459, _, none⟩) NB451_459.out _).trans (((cell_far (p := ⟨gb459, _, none⟩) NB451_459.out _).trans (((cell_far (p := ⟨gb459, _, none⟩) NB451_459.out _).trans (((cell_far (p := ⟨gb459, _, none⟩) NB451_459.out _).trans (hHeld.2.2.1)))))))))), ((cell_far (p := ⟨gb459, _, none⟩) NB451_459.out _).trans (((cell_far (p := ⟨gb459, _, none⟩) NB451_459.out _).trans (((cell_far (p := ⟨gb459, _, none⟩) NB451_459.out _).trans (((cell_far (p := ⟨gb459, _, none⟩) NB451_459.out _).trans (((cell_far (p := ⟨gb459, _, none⟩) NB451_459.out _).trans (hHeld.2.2.2.1)))))))))), ((cell_far (p := ⟨gb459, _, none⟩) NB451_459.out _).trans (((cell_far (p := ⟨gb459, _, none⟩) NB451_459.out _).trans (((cell_far (p := ⟨gb459, _, none⟩) NB451_459.out _).trans (((cell_far (p := ⟨gb459, _, none⟩) NB451_459.out _).trans (((cell_far (p := ⟨gb459, _, none⟩) NB451_459.out _).trans (hHeld.2.2.2.2.1)))))))))), ((cell_far (p := ⟨gb459, _, none⟩) (by first | exact Kd.own_blk (Kd.R_ne HO_12.out BK459.out (by decide)) | (rw [add_block]; exact Kd.own_blk (Kd.R_ne HO_12.out BK459.out (by decide))) | (show (Addr.add _ _).block ≠ _; rw [add_block]; exact Kd.own_blk (Kd.R_ne HO_12.out BK459.out (by decide))) | (dsimp only; exact Kd.own_blk (Kd.R_ne HO_12.out BK459.out (by decide)))) _).trans (((cell_far (p := ⟨gb459, _, none⟩) (by first | exact Kd.own_blk (Kd.R_ne HO_12.out BK459.out (by decide)) | (rw [add_block]; exact Kd.own_blk (Kd.R_ne HO_12.out BK459.out (by decide))) | (show (Addr.add _ _).block ≠ _; rw [add_block]; exact Kd.own_blk (Kd.R_ne HO_12.out BK459.out (by decide))) | (dsimp only; exact Kd.own_blk (Kd.R_ne HO_12.out BK459.out (by decide)))) _).trans (((cell_far (p := ⟨gb459, _, none⟩) (by first | exact Kd.own_blk (Kd.R_ne HO_12.out BK459.out (by decide)) | (rw [add_block]; exact Kd.own_blk (Kd.R_ne HO_12.out BK459.out (by decide))) | (show (Addr.add _ _).block ≠ _; rw [add_block]; exact Kd.own_blk (Kd.R_ne HO_12.out BK459.out (by decide))) | (dsimp only; exact Kd.own_blk (Kd.R_ne HO_12.out BK459.out (by decide)))) _).trans (((cell_far (p := ⟨gb459, _, none⟩) (by first | exact Kd.own_blk (Kd.R_ne HO_12.out BK459.out (by decide)) | (rw [add_block]; exact Kd.own_blk (Kd.R_ne HO_12.out BK459.out (by decide))) | (show (Addr.add _ _).block ≠ _; rw [add_block]; exact Kd.own_blk (Kd.R_ne HO_12.out BK459.out (by decide))) | (dsimp only; exact Kd.own_blk (Kd.R_ne HO_12.out BK459.out (by decide)))) _).trans (((cell_far (p := ⟨gb459, _, none⟩) (by first | exact Kd.own_blk (Kd.R_ne HO_12.out BK459.out (by decide)) | (rw [add_block]; exact Kd.own_blk (Kd.R_ne HO_12.out BK459.out (by decide))) | (show (Addr.add _ _).block ≠ _; rw [add_block]; exact Kd.own_blk (Kd.R_ne HO_12.out BK459.out (by decide))) | (dsimp only; exact Kd.own_blk (Kd.R_ne HO_12.out BK459.out (by decide)))) _).trans (hHeld.2.2.2.2.2.1)))))))))), ((cell_far (p := ⟨gb459, _, none⟩) (by first | exact Kd.own_blk (Kd.R_ne HO_12.out BK459.out (by decide)) | (rw [add_block]; exact Kd.own_blk (Kd.R_ne HO_12.out BK459.out (by decide))) | (show (Addr.add _ _).block ≠ _; rw [add_block]; exact Kd.own_blk (Kd.R_ne HO_12.out BK459.out (by decide))) | (dsimp only; exact Kd.own_blk (Kd.R_ne HO_12.out BK459.out (by decide)))) _).trans (((cell_far (p := ⟨gb459, _, none⟩) (by first | exact Kd.own_blk (Kd.R_ne HO_12.out BK459.out (by decide)) | (rw [add_block]; exact Kd.own_blk (Kd.R_ne HO_12.out BK459.out (by decide))) | (show (Addr.add _ _).block ≠ _; rw [add_block]; exact Kd.own_blk (Kd.R_ne HO_12.out BK459.out (by decide))) | (dsimp only; exact Kd.own_blk (Kd.R_ne HO_12.out BK459.out (by decide)))) _).trans (((cell_far (p := ⟨gb459, _, none⟩) (by first | exact Kd.own_blk (Kd.R_ne HO_12.out BK459.out (by decide)) | (rw [add_block]; exact Kd.own_blk (Kd.R_ne HO_12.out BK459.out (by decide))) | (show (Addr.add _ _).block ≠ _; rw [add_block]; exact Kd.own_blk (Kd.R_ne HO_12.out BK459.out (by decide))) | (dsimp only; exact Kd.own_blk (Kd.R_ne HO_12.out BK459.out (by decide)))) _).trans (((cell_far (p := ⟨gb459, _, none⟩) (by first | exact Kd.own_blk (Kd.R_ne HO_12.out BK459.out (by decide)) | (rw [add_block]; exact Kd.own_blk (Kd.R_ne HO_12.out BK459.out (by decide))) | (show (Addr.add _ _).block ≠ _; rw [add_block]; exact Kd.own_blk (Kd.R_ne HO_12.out BK459.out (by decide))) | (dsimp only; exact Kd.own_blk (Kd.R_ne HO_12.out BK459.out (by decide)))) _).trans (((cell_far (p := ⟨gb459, _, none⟩) (by first | exact Kd.own_blk (Kd.R_ne HO_12.out BK459.out (by decide)) | (rw [add_block]; exact Kd.own_blk (Kd.R_ne HO_12.out BK459.out (by decide))) | (show (Addr.add _ _).block ≠ _; rw [add_block]; exact Kd.own_blk (Kd.R_ne HO_12.out BK459.out (by decide))) | (dsimp only; exact Kd.own_blk (Kd.R_ne HO_12.out BK459.out (by decide)))) _).trans (hHeld.2.2.2.2.2.2))))))))))⟩ (fun hHeld => ?_)
                     clear hK K
                     refine pA 11 23 HT_ ?_
                     refine done_ (done_of HT_.out (by kernel_rfl)) ?_
                     have ⟨hcz279_0, hcz279_1, hcz279_2, hcz279_3, hcz279_4, hfz279_0⟩ := cz5 BK459
                     have hnb280 := NB451_402.out
                     have hnc280 := NB402_451.out
                     have hnb281 := NB451_403.out
                     have hnc281 := NB403_451.out
                     have hnb282 := NB451_410.out
                     have hnc282 := NB410_451.out
                     have hnb283 := NB451_417.out
                     have hnc283 := NB417_451.out
                     have hnb284 := NB451_434.out
                     have hnc284 := NB434_451.out
                     have hnb285 := NB451_442.out
                     have hnc285 := NB442_451.out
                     have hnb286 := NB451_450.out
                     have hnc286 := NB450_451.out
                     have ⟨hcz287_0, hcz287_1, hcz287_2, hcz287_3, hcz287_4, hfz287_0⟩ := cz5 BK451
                     try go_wp2
                     go_roundg k4
                     case measure => have := HJ6.out; have := HJ39.out; have := HJ170.out; have := HK4.out; omega
                     case rel => exact ⟨(wrap64 (x20_4 + 1)), (wrap64 (x21_4 + 1)), (t453), (t454), (t455), (t456), (t457), rB, rB, H', ⟨by have := HJ6.out; have := HJ39.out; have := HJ170.out; have := HK4.out; omega⟩, ⟨by (with_reducible repeat (first | apply Kd.R_alloc | apply Kd.R_drewN | apply Kd.R_drew)); exact Kd.R_mono (Kd.R_far (p := ⟨gb451, 4, none⟩) (Kd.R_far (p := ⟨gb451, 3, none⟩) (Kd.R_far (p := ⟨gb451, 2, none⟩) (Kd.R_far (p := ⟨gb451, 1, none⟩) (Kd.R_far (p := ⟨gb451, 0, none⟩) (Kd.R_far (p := ⟨gb459, 4, none⟩) (Kd.R_far (p := ⟨gb459, 3, none⟩) (Kd.R_far (p := ⟨gb459, 2, none⟩) (Kd.R_far (p := ⟨gb459, 1, none⟩) (Kd.R_far (p := ⟨gb459, 0, none⟩) (Kd.R_types (Kd.R_types HO_12.out BK459.out (by decide)) BK451.out (by decide)) (fun _ hk => hk.1.2) (.int .i64 t453)) (fun _ hk => hk.1.2) (.int .i64 t454)) (fun _ hk => hk.1.2) (.int .i64 t455)) (fun _ hk => hk.1.2) (.int .i64 t456)) (fun _ hk => hk.1.2) (.int .i64 t457)) (fun _ hk => hk.2) (.int .i64 t453)) (fun _ hk => hk.2) (.int .i64 t454)) (fun _ hk => hk.2) (.int .i64 t455)) (fun _ hk => hk.2) (.int .i64 t456)) (fun _ hk => hk.2) (.int .i64 t457)) (fun _ hk => hk.1.1)⟩, ⟨by exact pW BK402⟩, ⟨by exact pW BK403⟩, ⟨by exact pW BK410⟩, ⟨by exact pW BK417⟩, ⟨by exact pW BK434⟩, ⟨by exact pW BK442⟩, ⟨by exact pW BK450⟩, ⟨by exact pW BK451⟩, (aB HB)⟩
                    ·replace H := iF (by decide) H
                     have H' := Aside0.mk H
                     clear H
                     try go_wp2
                     replace HO_12 := Aside0.mk (Kd.R_drew HO_12.out)
                     replace BK402 := dK BK402
                     replace BK403 := dK BK403
                     replace BK410 := dK BK410
                     replace BK417 := dK BK417
                     replace BK434 := dK BK434
                     replace BK442 := dK BK442
                     replace BK450 := dK BK450
                     replace BK451 := dK BK451
                     replace HB := Aside0.mk (below_drew1 HB.out)
                     have p452 : 0 ≤ (x21_4 : Int) := of_decide_eq_true asmB
                     have q452 : x21_4 < (t431.length : Int) := of_decide_eq_true asmB
                     obtain ⟨ad452, e452, hx452_0, hx452_1⟩ := at_T49 (Kd.R_reads' HO_12.out).2.2 x21_4 p452 q452
                     cases e452
                     replace p452 := eq_true p452
                     replace q452 := eq_true q452
                     refine sA (n := 12) (S := fun w' => w'.cell? ⟨gb451, 0, none⟩ = some (.int .i64 x452000_4) ∧ w'.cell? ⟨gb451, 1, none⟩ = some (.int .i64 x452001_4) ∧ w'.cell? ⟨gb451, 2, none⟩ = some (.int .i64 x452002_4) ∧ w'.cell? ⟨gb451, 3, none⟩ = some (.int .i64 x452003_4) ∧ w'.cell? ⟨gb451, 4, none⟩ = some (.int .i64 x452004_4) ∧ w'.cell? (ad452.add ((x21_4).toNat * 2)) = some (.int .i64 ((rd_T49 t431 x21_4).f0)) ∧ w'.cell? ⟨(ad452.add ((x21_4).toNat * 2)).block, (ad452.add ((x21_4).toNat * 2)).off + 1, none⟩ = some (.int .i64 ((rd_T49 t431 x21_4).f1))) (ds := []) laws_FnTrips.tab24 laws_FnTrips.bits24 #[false, false, false, false, false, false, false, false, false, false, false, false] ⟨cb BK451 0, cb BK451 1, cb BK451 2, cb BK451 3, cb BK451 4, hx452_0, hx452_1⟩ fun hHeld HT_ HW_ => ?_
                     generalize wr.drew = w288 at HO_12 BK402 BK403 BK410 BK417 BK434 BK442 BK450 BK451 HB hx452_0 hx452_1 hHeld ⊢
                     refine pA 1 165 HT_ ?_
                     refine pA 2 166 HT_ ?_
                     refine pA 3 167 HT_ ?_
                     refine tA 0 164 HT_ HW_ hHeld ?_
                     refine tA 4 168 HT_ HW_ hHeld ?_
                     refine join_ (σ := Nat) 2 #[true, true, true, true, true, true, true, true, true, true, false, false] (fun s_ => [(169, .tuple #[.agg #[.int .i64 t453, .int .i64 t454, .int .i64 t455, .int .i64 t456, .int .i64 t457], .bool false]), (22, .pointer (some ⟨s_, 0, none⟩)), (163, .tuple #[.agg #[.int .i64 t453, .int .i64 t454, .int .i64 t455, .int .i64 t456, .int .i64 t457], .bool false]), (170, .agg #[.int .i64 t453, .int .i64 t454, .int .i64 t455, .int .i64 t456, .int .i64 t457]), (171, .bool false)]) (fun s_ w' => (w'.cell? ⟨gb451, 0, none⟩ = some (.int .i64 x452000_4) ∧ w'.cell? ⟨gb451, 1, none⟩ = some (.int .i64 x452001_4) ∧ w'.cell? ⟨gb451, 2, none⟩ = some (.int .i64 x452002_4) ∧ w'.cell? ⟨gb451, 3, none⟩ = some (.int .i64 x452003_4) ∧ w'.cell? ⟨gb451, 4, none⟩ = some (.int .i64 x452004_4) ∧ w'.cell? (ad452.add ((x21_4).toNat * 2)) = some (.int .i64 ((rd_T49 t431 x21_4).f0)) ∧ w'.cell? ⟨(ad452.add ((x21_4).toNat * 2)).block, (ad452.add ((x21_4).toNat * 2)).off + 1, none⟩ = some (.int .i64 ((rd_T49 t431 x21_4).f1))) ∧ (Kd.R k49 49 w' w.heap.size (fun k_ => k_ ≠ gb403) (.slice (some ad452) t431.length co179) t431) ∧ (w'.heap[gb402]? = some (.cells #[.int .i64 t395, .int .i64 t396, .int .i64 t397, .int .i64 t398, .int .i64 t399] 25 (0, 0))) ∧ (w'.heap[gb403]? = some (.cells #[.int .i64 t400, .int .i64 t401] 49 (0, 0))) ∧ (w'.heap[gb410]? = some (.cells #[.int .i64 t404, .int .i64 t405, .int .i64 t406, .int .i64 t407, .int .i64 t408] 25 (0, 0))) ∧ (w'.heap[gb417]? = some (.cells #[.int .i64 t411, .int .i64 t412, .int .i64 t413, .int .i64 t414, .int .i64 t415] 25 (0, 0))) ∧ (w'.heap[gb434]? = some (.cells #[.int .i64 t426, .int .i64 t427, .int .i64 t428, .int .i64 t429, .int .i64 t430] 25 (0, 0))) ∧ (w'.heap[gb442]? = some (.cells #[.int .i64 t435, .int .i64 t436, .int .i64 t437, .int .i64 t438, .int .i64 t439] 25 (0, 0))) ∧ (w'.heap[gb450]? = some (.cells #[.int .i64 t443, .int .i64 t444, .int .i64 t445, .int .i64 t446, .int .i64 t447] 25 (0, 0))) ∧ (w'.heap[gb451]? = some (.cells #[.int .i64 x452000_4, .int .i64 x452001_4, .int .i64 x452002_4, .int .i64 x452003_4, .int .i64 x452004_4] 25 (0, 0))) ∧ (w'.heap[s_]? = some (.cells #[.int .i64 0, .int .i64 0, .int .i64 0, .int .i64 0, .int .i64 0] 25 (0, 0))) ∧ (w.heap.size ≤ s_) ∧ (w.heap.size ≤ s_) ∧ (gb402 ≠ s_) ∧ (s_ ≠ gb402) ∧ (gb403 ≠ s_) ∧ (s_ ≠ gb403) ∧ (gb410 ≠ s_) ∧ (s_ ≠ gb410) ∧ (gb417 ≠ s_) ∧ (s_ ≠ gb417) ∧ (gb434 ≠ s_) ∧ (s_ ≠ gb434) ∧ (gb442 ≠ s_) ∧ (s_ ≠ gb442) ∧ (gb450 ≠ s_) ∧ (s_ ≠ gb450) ∧ (gb451 ≠ s_) ∧ (s_ ≠ gb451) ∧ (Below w.heap.size w w')) ?_ ?_
                     rotate_left
                     ·intro hCont
                      refine two_ (i := 5) (j := 9) (Ni := some 169) (Nj := some 22) #[true, true, true, true, true, true, false, false, false, false, false, false] #[true, true, true, true, true, false, false, false, false, true, false, false] rfl rfl rfl rfl (two_of HT_.out (by kernel_rfl)) (by decide) (by decide) (fun K hK => ?_) (fun K hK => ?_)
                      ·skip
                       refine goes_ Try.func31 (by kernel_rfl) rfl #[.agg #[.int .i64 x452000_4, .int .i64 x452001_4, .int .i64 x452002_4, .int .i64 x452003_4, .int .i64 x452004_4], .agg #[.int .i64 ((rd_T49 t431 x21_4).f0), .int .i64 ((rd_T49 t431 x21_4).f1)]] (by rfl) rfl rfl argsB ?_
                       with_reducible refine (impl_StepTrip.calls k4 x452000_4 x452001_4 x452002_4 x452003_4 x452004_4 ((rd_T49 t431 x21_4).f0) ((rd_T49 t431 x21_4).f1) t453 t454 t455 t456 t457 false _ A260.out).mono ?_
                       rintro e w289 ⟨rfl, hb⟩
                       have HS5_ := (hb.cell (World.block_lt_of_cell? _ _ (hHeld.2.2.2.2.2.1))).trans (hHeld.2.2.2.2.2.1)
                       have HS6_ := (hb.cell (World.block_lt_of_cell? _ _ (hHeld.2.2.2.2.2.2))).trans (hHeld.2.2.2.2.2.2)
                       refine ⟨_, rfl, ?_⟩
                       replace HO_12 := uR HO_12 hb
                       replace BK402 := uK BK402 hb
                       replace BK403 := uK BK403 hb
                       replace BK410 := uK BK410 hb
                       replace BK417 := uK BK417 hb
                       replace BK434 := uK BK434 hb
                       replace BK442 := uK BK442 hb
                       replace BK450 := uK BK450 hb
                       replace BK451 := uK BK451 hb
                       replace HB := uB HB hb
                       (try clear hb)
                       (try clear hk)
                       refine hK.out _ _ ⟨cb BK451 0, cb BK451 1, cb BK451 2, cb BK451 3, cb BK451 4, HS5_, HS6_⟩ (fun hHeld => ?_)
                       clear hK K
                       refine nA ?_ (some 169)
                       refine pA 6 163 HT_ ?_
                       refine pA 7 170 HT_ ?_
                       refine pA 8 171 HT_ ?_
                       refine oA 9 (some 22) HT_ fun K hK => ?_
                       refine box_step ?hg (N := 22) ?hd (cs := #[.int .i64 0, .int .i64 0, .int .i64 0, .int .i64 0, .int .i64 0]) (t := 25) ?hr ?_; (case hd => rfl); (case hg => rfl); (case hr => first | (go_simp; done) | (go_simp; rfl))
                       intro gb459 hg w290 hbox hb
                       have HS5_ := (hb.cell (World.block_lt_of_cell? _ _ (hHeld.2.2.2.2.2.1))).trans (hHeld.2.2.2.2.2.1)
                       have HS6_ := (hb.cell (World.block_lt_of_cell? _ _ (hHeld.2.2.2.2.2.2))).trans (hHeld.2.2.2.2.2.2)
                       have BK459 := Aside0.mk hbox
                       have GE459 := gB HB hg
                       have ⟨NB402_459, NB459_402⟩ := nB BK402 hg
                       have ⟨NB403_459, NB459_403⟩ := nB BK403 hg
                       have ⟨NB410_459, NB459_410⟩ := nB BK410 hg
                       have ⟨NB417_459, NB459_417⟩ := nB BK417 hg
                       have ⟨NB434_459, NB459_434⟩ := nB BK434 hg
                       have ⟨NB442_459, NB459_442⟩ := nB BK442 hg
                       have ⟨NB450_459, NB459_450⟩ := nB BK450 hg
                       have ⟨NB451_459, NB459_451⟩ := nB BK451 hg
                       replace HO_12 := uR HO_12 hb
                       replace BK402 := uK BK402 hb
                       replace BK403 := uK BK403 hb
                       replace BK410 := uK BK410 hb
                       replace BK417 := uK BK417 hb
                       replace BK434 := uK BK434 hb
                       replace BK442 := uK BK442 hb
                       replace BK450 := uK BK450 hb
                       replace BK451 := uK BK451 hb
                       replace HB := uB HB hb
                       clear hb hbox hg
                       refine hK.out _ _ ⟨cb BK451 0, cb BK451 1, cb BK451 2, cb BK451 3, cb BK451 4, HS5_, HS6_⟩ (fun hHeld => ?_)
                       clear hK K
                       refine nA ?_ (some 22)
                       exact norm_ (by simp only [putAll, Act.put, List.setIfInBounds_toArray, List.set_cons_zero, List.set_cons_succ]) (hCont (gb459) _ ⟨hHeld, (upR HO_12.out), (upK BK402.out), (upK BK403.out), (upK BK410.out), (upK BK417.out), (upK BK434.out), (upK BK442.out), (upK BK450.out), (upK BK451.out), (upK BK459.out), GE459.out, GE459.out, NB402_459.out, NB459_402.out, NB403_459.out, NB459_403.out, NB410_459.out, NB459_410.out, NB417_459.out, NB459_417.out, NB434_459.out, NB459_434.out, NB442_459.out, NB459_442.out, NB450_459.out, NB459_450.out, NB451_459.out, NB459_451.out, (bW HB)⟩)
                      ·skip
                       refine box_step ?hg (N := 22) ?hd (cs := #[.int .i64 0, .int .i64 0, .int .i64 0, .int .i64 0, .int .i64 0]) (t := 25) ?hr ?_; (case hd => rfl); (case hg => rfl); (case hr => first | (go_simp; done) | (go_simp; rfl))
                       intro gb459 hg w289 hbox hb
                       have HS5_ := (hb.cell (World.block_lt_of_cell? _ _ (hHeld.2.2.2.2.2.1))).trans (hHeld.2.2.2.2.2.1)
                       have HS6_ := (hb.cell (World.block_lt_of_cell? _ _ (hHeld.2.2.2.2.2.2))).trans (hHeld.2.2.2.2.2.2)
                       have BK459 := Aside0.mk hbox
                       have GE459 := gB HB hg
                       have ⟨NB402_459, NB459_402⟩ := nB BK402 hg
                       have ⟨NB403_459, NB459_403⟩ := nB BK403 hg
                       have ⟨NB410_459, NB459_410⟩ := nB BK410 hg
                       have ⟨NB417_459, NB459_417⟩ := nB BK417 hg
                       have ⟨NB434_459, NB459_434⟩ := nB BK434 hg
                       have ⟨NB442_459, NB459_442⟩ := nB BK442 hg
                       have ⟨NB450_459, NB459_450⟩ := nB BK450 hg
                       have ⟨NB451_459, NB459_451⟩ := nB BK451 hg
                       replace HO_12 := uR HO_12 hb
                       replace BK402 := uK BK402 hb
                       replace BK403 := uK BK403 hb
                       replace BK410 := uK BK410 hb
                       replace BK417 := uK BK417 hb
                       replace BK434 := uK BK434 hb
                       replace BK442 := uK BK442 hb
                       replace BK450 := uK BK450 hb
                       replace BK451 := uK BK451 hb
                       replace HB := uB HB hb
                       clear hb hbox hg
                       refine hK.out _ _ ⟨cb BK451 0, cb BK451 1, cb BK451 2, cb BK451 3, cb BK451 4, HS5_, HS6_⟩ (fun hHeld => ?_)
                       clear hK K
                       refine nA ?_ (some 22)
                       refine oA 5 (some 169) HT_ fun K hK => ?_
                       refine goes_ Try.func31 (by kernel_rfl) rfl #[.agg #[.int .i64 x452000_4, .int .i64 x452001_4, .int .i64 x452002_4, .int .i64 x452003_4, .int .i64 x452004_4], .agg #[.int .i64 ((rd_T49 t431 x21_4).f0), .int .i64 ((rd_T49 t431 x21_4).f1)]] (by rfl) rfl rfl argsB ?_
                       with_reducible refine (impl_StepTrip.calls k4 x452000_4 x452001_4 x452002_4 x452003_4 x452004_4 ((rd_T49 t431 x21_4).f0) ((rd_T49 t431 x21_4).f1) t453 t454 t455 t456 t457 false _ A260.out).mono ?_
                       rintro e w290 ⟨rfl, hb⟩
                       have HS5_ := (hb.cell (World.block_lt_of_cell? _ _ (hHeld.2.2.2.2.2.1))).trans (hHeld.2.2.2.2.2.1)
                       have HS6_ := (hb.cell (World.block_lt_of_cell? _ _ (hHeld.2.2.2.2.2.2))).trans (hHeld.2.2.2.2.2.2)
                       refine ⟨_, rfl, ?_⟩
                       replace HO_12 := uR HO_12 hb
                       replace BK402 := uK BK402 hb
                       replace BK403 := uK BK403 hb
                       replace BK410 := uK BK410 hb
                       replace BK417 := uK BK417 hb
                       replace BK434 := uK BK434 hb
                       replace BK442 := uK BK442 hb
                       replace BK450 := uK BK450 hb
                       replace BK451 := uK BK451 hb
                       replace BK459 := uK BK459 hb
                       replace HB := uB HB hb
                       (try clear hb)
                       (try clear hk)
                       refine hK.out _ _ ⟨cb BK451 0, cb BK451 1, cb BK451 2, cb BK451 3, cb BK451 4, HS5_, HS6_⟩ (fun hHeld => ?_)
                       clear hK K
                       refine nA ?_ (some 169)
                       refine pA 6 163 HT_ ?_
                       refine pA 7 170 HT_ ?_
                       refine pA 8 171 HT_ ?_
                       exact norm_ (by simp only [putAll, Act.put, List.setIfInBounds_toArray, List.set_cons_zero, List.set_cons_succ]) (hCont (gb459) _ ⟨hHeld, (upR HO_12.out), (upK BK402.out), (upK BK403.out), (upK BK410.out), (upK BK417.out), (upK BK434.out), (upK BK442.out), (upK BK450.out), (upK BK451.out), (upK BK459.out), GE459.out, GE459.out, NB402_459.out, NB459_402.out, NB403_459.out, NB459_403.out, NB410_459.out, NB459_410.out, NB417_459.out, NB459_417.out, NB434_459.out, NB459_434.out, NB442_459.out, NB459_442.out, NB450_459.out, NB459_450.out, NB451_459.out, NB459_451.out, (bW HB)⟩)
                     rintro gb459 w291 ⟨hS_, h0_, h1_, h2_, h3_, h4_, h5_, h6_, h7_, h8_, h9_, h10_, h11_, h12_, h13_, h14_, h15_, h16_, h17_, h18_, h19_, h20_, h21_, h22_, h23_, h24_, h25_, h26_, h27_, h28_⟩
                     have n0_ : Aside0 (Kd.R k49 49 w291 w.heap.size (fun k_ => k_ ≠ gb403) (.slice (some ad452) t431.length co179) t431) := ⟨h0_⟩
                     have n1_ : Aside0 (w291.heap[gb402]? = some (.cells #[.int .i64 t395, .int .i64 t396, .int .i64 t397, .int .i64 t398, .int .i64 t399] 25 (0, 0))) := ⟨h1_⟩
                     have n2_ : Aside0 (w291.heap[gb403]? = some (.cells #[.int .i64 t400, .int .i64 t401] 49 (0, 0))) := ⟨h2_⟩
                     have n3_ : Aside0 (w291.heap[gb410]? = some (.cells #[.int .i64 t404, .int .i64 t405, .int .i64 t406, .int .i64 t407, .int .i64 t408] 25 (0, 0))) := ⟨h3_⟩
                     have n4_ : Aside0 (w291.heap[gb417]? = some (.cells #[.int .i64 t411, .int .i64 t412, .int .i64 t413, .int .i64 t414, .int .i64 t415] 25 (0, 0))) := ⟨h4_⟩
                     have n5_ : Aside0 (w291.heap[gb434]? = some (.cells #[.int .i64 t426, .int .i64 t427, .int .i64 t428, .int .i64 t429, .int .i64 t430] 25 (0, 0))) := ⟨h5_⟩
                     have n6_ : Aside0 (w291.heap[gb442]? = some (.cells #[.int .i64 t435, .int .i64 t436, .int .i64 t437, .int .i64 t438, .int .i64 t439] 25 (0, 0))) := ⟨h6_⟩
                     have n7_ : Aside0 (w291.heap[gb450]? = some (.cells #[.int .i64 t443, .int .i64 t444, .int .i64 t445, .int .i64 t446, .int .i64 t447] 25 (0, 0))) := ⟨h7_⟩
                     have n8_ : Aside0 (w291.heap[gb451]? = some (.cells #[.int .i64 x452000_4, .int .i64 x452001_4, .int .i64 x452002_4, .int .i64 x452003_4, .int .i64 x452004_4] 25 (0, 0))) := ⟨h8_⟩
                     have n9_ : Aside0 (w291.heap[gb459]? = some (.cells #[.int .i64 0, .int .i64 0, .int .i64 0, .int .i64 0, .int .i64 0] 25 (0, 0))) := ⟨h9_⟩
                     have n10_ : Aside0 (w.heap.size ≤ gb459) := ⟨h10_⟩
                     have n11_ : Aside0 (w.heap.size ≤ gb459) := ⟨h11_⟩
                     have n12_ : Aside0 (gb402 ≠ gb459) := ⟨h12_⟩
                     have n13_ : Aside0 (gb459 ≠ gb402) := ⟨h13_⟩
                     have n14_ : Aside0 (gb403 ≠ gb459) := ⟨h14_⟩
                     have n15_ : Aside0 (gb459 ≠ gb403) := ⟨h15_⟩
                     have n16_ : Aside0 (gb410 ≠ gb459) := ⟨h16_⟩
                     have n17_ : Aside0 (gb459 ≠ gb410) := ⟨h17_⟩
                     have n18_ : Aside0 (gb417 ≠ gb459) := ⟨h18_⟩
                     have n19_ : Aside0 (gb459 ≠ gb417) := ⟨h19_⟩
                     have n20_ : Aside0 (gb434 ≠ gb459) := ⟨h20_⟩
                     have n21_ : Aside0 (gb459 ≠ gb434) := ⟨h21_⟩
                     have n22_ : Aside0 (gb442 ≠ gb459) := ⟨h22_⟩
                     have n23_ : Aside0 (gb459 ≠ gb442) := ⟨h23_⟩
                     have n24_ : Aside0 (gb450 ≠ gb459) := ⟨h24_⟩
                     have n25_ : Aside0 (gb459 ≠ gb450) := ⟨h25_⟩
                     have n26_ : Aside0 (gb451 ≠ gb459) := ⟨h26_⟩
                     have n27_ : Aside0 (gb459 ≠ gb451) := ⟨h27_⟩
                     have n28_ : Aside0 (Below w.heap.size w w291) := ⟨h28_⟩
                     clear HO_12
                     clear BK402
                     clear BK403
                     clear BK410
                     clear BK417
                     clear BK434
                     clear BK442
                     clear BK450
                     clear BK451
                     clear HB
                     clear h0_ h1_ h2_ h3_ h4_ h5_ h6_ h7_ h8_ h9_ h10_ h11_ h12_ h13_ h14_ h15_ h16_ h17_ h18_ h19_ h20_ h21_ h22_ h23_ h24_ h25_ h26_ h27_ h28_
                     have HO_12 := n0_
                     have BK402 := n1_
                     have BK403 := n2_
                     have BK410 := n3_
                     have BK417 := n4_
                     have BK434 := n5_
                     have BK442 := n6_
                     have BK450 := n7_
                     have BK451 := n8_
                     have BK459 := n9_
                     have GE459 := n10_
                     have GE459 := n11_
                     have NB402_459 := n12_
                     have NB459_402 := n13_
                     have NB403_459 := n14_
                     have NB459_403 := n15_
                     have NB410_459 := n16_
                     have NB459_410 := n17_
                     have NB417_459 := n18_
                     have NB459_417 := n19_
                     have NB434_459 := n20_
                     have NB459_434 := n21_
                     have NB442_459 := n22_
                     have NB459_442 := n23_
                     have NB450_459 := n24_
                     have NB459_450 := n25_
                     have NB451_459 := n26_
                     have NB459_451 := n27_
                     have HB := n28_
                     clear n0_ n1_ n2_ n3_ n4_ n5_ n6_ n7_ n8_ n9_ n10_ n11_ n12_ n13_ n14_ n15_ n16_ n17_ n18_ n19_ n20_ n21_ n22_ n23_ n24_ n25_ n26_ n27_ n28_
                     have hHeld : w291.cell? ⟨gb451, 0, none⟩ = some (.int .i64 x452000_4) ∧ w291.cell? ⟨gb451, 1, none⟩ = some (.int .i64 x452001_4) ∧ w291.cell? ⟨gb451, 2, none⟩ = some (.int .i64 x452002_4) ∧ w291.cell? ⟨gb451, 3, none⟩ = some (.int .i64 x452003_4) ∧ w291.cell? ⟨gb451, 4, none⟩ = some (.int .i64 x452004_4) ∧ w291.cell? (ad452.add ((x21_4).toNat * 2)) = some (.int .i64 ((rd_T49 t431 x21_4).f0)) ∧ w291.cell? ⟨(ad452.add ((x21_4).toNat * 2)).block, (ad452.add ((x21_4).toNat * 2)).off + 1, none⟩ = some (.int .i64 ((rd_T49 t431 x21_4).f1)) := hS_
                     refine norm_ (a' := ?_) ?_ ?_
                     rotate_left
                     ·simp only [putAll, Act.put, List.setIfInBounds_toArray, List.set_cons_zero, List.set_cons_succ]
                      rfl
                     refine oA 10 none HT_ fun K hK => ?_
                     have hs292 := ci BK459.out 0 0 rfl
                     have hfs292 := blk_frozen BK459.out 0
                     have hns292_0 := NB402_459.out
                     have hns292_1 := NB403_459.out
                     have hns292_2 := NB410_459.out
                     have hns292_3 := NB417_459.out
                     have hns292_4 := NB434_459.out
                     have hns292_5 := NB442_459.out
                     have hns292_6 := NB450_459.out
                     have hns292_7 := NB451_459.out
                     have hms292_0 := NB459_402.out
                     have hms292_1 := NB459_403.out
                     have hms292_2 := NB459_410.out
                     have hms292_3 := NB459_417.out
                     have hms292_4 := NB459_434.out
                     have hms292_5 := NB459_442.out
                     have hms292_6 := NB459_450.out
                     have hms292_7 := NB459_451.out
                     have hs293 := ci BK459.out 1 0 rfl
                     have hfs293 := blk_frozen BK459.out 1
                     have hs294 := ci BK459.out 2 0 rfl
                     have hfs294 := blk_frozen BK459.out 2
                     have hs295 := ci BK459.out 3 0 rfl
                     have hfs295 := blk_frozen BK459.out 3
                     have hs296 := ci BK459.out 4 0 rfl
                     have hfs296 := blk_frozen BK459.out 4
                     refine skip_ (w1 := ?_) (by rfl) rfl ?_ ?_
                     rotate_left
                     ·go_simp
                      rfl
                     refine hK.out _ _ ⟨((cell_far (p := ⟨gb459, _, none⟩) NB451_459.out _).trans (((cell_far (p := ⟨gb459, _, none⟩) NB451_459.out _).trans (((cell_far (p := ⟨gb459, _, none⟩) NB451_459.out _).trans (((cell_far (p := ⟨gb459, _, none⟩) NB451_459.out _).trans (((cell_far (p := ⟨gb459, _, none⟩) NB451_459.out _).trans (hHeld.1)))))))))), ((cell_far (p := ⟨gb459, _, none⟩) NB451_459.out _).trans (((cell_far (p := ⟨gb459, _, none⟩) NB451_459.out _).trans (((cell_far (p := ⟨gb459, _, none⟩) NB451_459.out _).trans (((cell_far (p := ⟨gb459, _, none⟩) NB451_459.out _).trans (((cell_far (p := ⟨gb459, _, none⟩) NB451_459.out _).trans (hHeld.2.1)))))))))), ((cell_far (p := ⟨gb459, _, none⟩) NB451_459.out _).trans (((cell_far (p := ⟨gb459, _, none⟩) NB451_459.out _).trans (((cell_far (p := ⟨gb459, _, none⟩) NB451_459.out _).trans (((cell_far (p := ⟨gb459, _, none⟩) NB451_459.out _).trans (((cell_far (p := ⟨gb459, _, none⟩) NB451_459.out _).trans (hHeld.2.2.1)))))))))), ((cell_far (p := ⟨gb459, _, none⟩) NB451_459.out _).trans (((cell_far (p := ⟨gb459, _, none⟩) NB451_459.out _).trans (((cell_far (p := ⟨gb459, _, none⟩) NB451_459.out _).trans (((cell_far (p := ⟨gb459, _, none⟩) NB451_459.out _).trans (((cell_far (p := ⟨gb459, _, none⟩) NB451_459.out _).trans (hHeld.2.2.2.1)))))))))), ((cell_far (p := ⟨gb459, _, none⟩) NB451_459.out _).trans (((cell_far (p := ⟨gb459, _, none⟩) NB451_459.out _).trans (((cell_far (p := ⟨gb459, _, none⟩) NB451_459.out _).trans (((cell_far (p := ⟨gb459, _, none⟩) NB451_459.out _).trans (((cell_far (p := ⟨gb459, _, none⟩) NB451_459.out _).trans (hHeld.2.2.2.2.1)))))))))), ((cell_far (p := ⟨gb459, _, none⟩) (by first | exact Kd.own_blk (Kd.R_ne HO_12.out BK459.out (by decide)) | (rw [add_block]; exact Kd.own_blk (Kd.R_ne HO_12.out BK459.out (by decide))) | (show (Addr.add _ _).block ≠ _; rw [add_block]; exact Kd.own_blk (Kd.R_ne HO_12.out BK459.out (by decide))) | (dsimp only; exact Kd.own_blk (Kd.R_ne HO_12.out BK459.out (by decide)))) _).trans (((cell_far (p := ⟨gb459, _, none⟩) (by first | exact Kd.own_blk (Kd.R_ne HO_12.out BK459.out (by decide)) | (rw [add_block]; exact Kd.own_blk (Kd.R_ne HO_12.out BK459.out (by decide))) | (show (Addr.add _ _).block ≠ _; rw [add_block]; exact Kd.own_blk (Kd.R_ne HO_12.out BK459.out (by decide))) | (dsimp only; exact Kd.own_blk (Kd.R_ne HO_12.out BK459.out (by decide)))) _).trans (((cell_far (p := ⟨gb459, _, none⟩) (by first | exact Kd.own_blk (Kd.R_ne HO_12.out BK459.out (by decide)) | (rw [add_block]; exact Kd.own_blk (Kd.R_ne HO_12.out BK459.out (by decide))) | (show (Addr.add _ _).block ≠ _; rw [add_block]; exact Kd.own_blk (Kd.R_ne HO_12.out BK459.out (by decide))) | (dsimp only; exact Kd.own_blk (Kd.R_ne HO_12.out BK459.out (by decide)))) _).trans (((cell_far (p := ⟨gb459, _, none⟩) (by first | exact Kd.own_blk (Kd.R_ne HO_12.out BK459.out (by decide)) | (rw [add_block]; exact Kd.own_blk (Kd.R_ne HO_12.out BK459.out (by decide))) | (show (Addr.add _ _).block ≠ _; rw [add_block]; exact Kd.own_blk (Kd.R_ne HO_12.out BK459.out (by decide))) | (dsimp only; exact Kd.own_blk (Kd.R_ne HO_12.out BK459.out (by decide)))) _).trans (((cell_far (p := ⟨gb459, _, none⟩) (by first | exact Kd.own_blk (Kd.R_ne HO_12.out BK459.out (by decide)) | (rw [add_block]; exact Kd.own_blk (Kd.R_ne HO_12.out BK459.out (by decide))) | (show (Addr.add _ _).block ≠ _; rw [add_block]; exact Kd.own_blk (Kd.R_ne HO_12.out BK459.out (by decide))) | (dsimp only; exact Kd.own_blk (Kd.R_ne HO_12.out BK459.out (by decide)))) _).trans (hHeld.2.2.2.2.2.1)))))))))), ((cell_far (p := ⟨gb459, _, none⟩) (by first | exact Kd.own_blk (Kd.R_ne HO_12.out BK459.out (by decide)) | (rw [add_block]; exact Kd.own_blk (Kd.R_ne HO_12.out BK459.out (by decide))) | (show (Addr.add _ _).block ≠ _; rw [add_block]; exact Kd.own_blk (Kd.R_ne HO_12.out BK459.out (by decide))) | (dsimp only; exact Kd.own_blk (Kd.R_ne HO_12.out BK459.out (by decide)))) _).trans (((cell_far (p := ⟨gb459, _, none⟩) (by first | exact Kd.own_blk (Kd.R_ne HO_12.out BK459.out (by decide)) | (rw [add_block]; exact Kd.own_blk (Kd.R_ne HO_12.out BK459.out (by decide))) | (show (Addr.add _ _).block ≠ _; rw [add_block]; exact Kd.own_blk (Kd.R_ne HO_12.out BK459.out (by decide))) | (dsimp only; exact Kd.own_blk (Kd.R_ne HO_12.out BK459.out (by decide)))) _).trans (((cell_far (p := ⟨gb459, _, none⟩) (by first | exact Kd.own_blk (Kd.R_ne HO_12.out BK459.out (by decide)) | (rw [add_block]; exact Kd.own_blk (Kd.R_ne HO_12.out BK459.out (by decide))) | (show (Addr.add _ _).block ≠ _; rw [add_block]; exact Kd.own_blk (Kd.R_ne HO_12.out BK459.out (by decide))) | (dsimp only; exact Kd.own_blk (Kd.R_ne HO_12.out BK459.out (by decide)))) _).trans (((cell_far (p := ⟨gb459, _, none⟩) (by first | exact Kd.own_blk (Kd.R_ne HO_12.out BK459.out (by decide)) | (rw [add_block]; exact Kd.own_blk (Kd.R_ne HO_12.out BK459.out (by decide))) | (show (Addr.add _ _).block ≠ _; rw [add_block]; exact Kd.own_blk (Kd.R_ne HO_12.out BK459.out (by decide))) | (dsimp only; exact Kd.own_blk (Kd.R_ne HO_12.out BK459.out (by decide)))) _).trans (((cell_far (p := ⟨gb459, _, none⟩) (by first | exact Kd.own_blk (Kd.R_ne HO_12.out BK459.out (by decide)) | (rw [add_block]; exact Kd.own_blk (Kd.R_ne HO_12.out BK459.out (by decide))) | (show (Addr.add _ _).block ≠ _; rw [add_block]; exact Kd.own_blk (Kd.R_ne HO_12.out BK459.out (by decide))) | (dsimp only; exact Kd.own_blk (Kd.R_ne HO_12.out BK459.out (by decide)))) _).trans (hHeld.2.2.2.2.2.2))))))))))⟩ (fun hHeld => ?_)
                     clear hK K
                     refine pA 11 23 HT_ ?_
                     refine done_ (done_of HT_.out (by kernel_rfl)) ?_
                     try go_wp2
                     go_roundg k4
                     case measure => have := HJ6.out; have := HJ39.out; have := HJ170.out; have := HK4.out; omega
                     case rel => exact ⟨(x20_4), (wrap64 (x21_4 + 1)), (x452000_4), (x452001_4), (x452002_4), (x452003_4), (x452004_4), rB, rB, H', ⟨by have := HJ6.out; have := HJ39.out; have := HJ170.out; have := HK4.out; omega⟩, ⟨by (with_reducible repeat (first | apply Kd.R_alloc | apply Kd.R_drewN | apply Kd.R_drew)); exact Kd.R_mono (Kd.R_far (p := ⟨gb459, 4, none⟩) (Kd.R_far (p := ⟨gb459, 3, none⟩) (Kd.R_far (p := ⟨gb459, 2, none⟩) (Kd.R_far (p := ⟨gb459, 1, none⟩) (Kd.R_far (p := ⟨gb459, 0, none⟩) (Kd.R_types HO_12.out BK459.out (by decide)) (fun _ hk => hk.2) (.int .i64 t453)) (fun _ hk => hk.2) (.int .i64 t454)) (fun _ hk => hk.2) (.int .i64 t455)) (fun _ hk => hk.2) (.int .i64 t456)) (fun _ hk => hk.2) (.int .i64 t457)) (fun _ hk => hk.1)⟩, ⟨by exact pW BK402⟩, ⟨by exact pW BK403⟩, ⟨by exact pW BK410⟩, ⟨by exact pW BK417⟩, ⟨by exact pW BK434⟩, ⟨by exact pW BK442⟩, ⟨by exact pW BK450⟩, ⟨by exact pW BK451⟩, (aB HB)⟩
                   ·rw [if_neg c259] at H
                    exact absurd H (by simp)
                  ·(first | rw [c258b0] | (simp only [i64_w, i32_w]; rw [c258b0]) | skip)
                   by_cases c297 : (!(x452000_4 == t435) || (!(x452001_4 == t436) || (!(x452002_4 == t437) || (!(x452003_4 == t438) || (!(x452004_4 == t439)))))) = true
                   ·rw [if_pos c297] at H
                    have c297b0 : (!(x452000_4 == t435) || (!(x452001_4 == t436) || (!(x452002_4 == t437) || (!(x452003_4 == t438) || (!(x452004_4 == t439)))))) = true := c297
                    clear c297
                    exact absurd (Option.some.inj H) (by rw [hT]; decide)
                   ·rw [if_neg c297] at H
                    have c297b0 : (!(x452000_4 == t435) || (!(x452001_4 == t436) || (!(x452002_4 == t437) || (!(x452003_4 == t438) || (!(x452004_4 == t439)))))) = false := by simpa using c297
                    clear c297
                    replace H := ifI H
                    rcases H with ⟨H, -, c313b0, c313b1⟩ | ⟨H, c313, c313b0, c313b1⟩
                    ·have H' := Aside0.mk H
                     clear H
                     have hnb314 := NB451_402.out
                     have hnc314 := NB402_451.out
                     have hnb315 := NB451_403.out
                     have hnc315 := NB403_451.out
                     have hnb316 := NB451_410.out
                     have hnc316 := NB410_451.out
                     have hnb317 := NB451_417.out
                     have hnc317 := NB417_451.out
                     have hnb318 := NB451_434.out
                     have hnc318 := NB434_451.out
                     have hnb319 := NB451_442.out
                     have hnc319 := NB442_451.out
                     have hnb320 := NB451_450.out
                     have hnc320 := NB450_451.out
                     have ⟨hcz321_0, hcz321_1, hcz321_2, hcz321_3, hcz321_4, hfz321_0⟩ := cz5 BK451
                     have hnb322 := NB442_402.out
                     have hnc322 := NB402_442.out
                     have hnb323 := NB442_403.out
                     have hnc323 := NB403_442.out
                     have hnb324 := NB442_410.out
                     have hnc324 := NB410_442.out
                     have hnb325 := NB442_417.out
                     have hnc325 := NB417_442.out
                     have hnb327 := NB442_450.out
                     have hnc327 := NB450_442.out
                     have ⟨hcz328_0, hcz328_1, hcz328_2, hcz328_3, hcz328_4, hfz328_0⟩ := cz5 BK442
                     go_wp2
                     go_meet
                     case rel => exact ⟨_, H', ⟨by have := HJ6.out; have := HJ39.out; have := HJ170.out; have := HK4.out; first | omega | exact Nat.le_refl _⟩, (aK BK402), (aK BK403), (aK BK410), (aK BK417), (aK BK434), (aK BK442), (aK BK450), (aB HB)⟩
                    ·exact absurd (Option.some.inj H) (by rw [hT]; decide)
                 )).elim
                omega
              ·replace H := iF (by decide) H
               have H' := Aside0.mk H
               clear H
               go_wp2
               go_meet
               case rel => exact ⟨_, H', ⟨by have := HJ6.out; have := HJ39.out; have := HJ170.out; first | omega | exact Nat.le_refl _⟩, (aK BK402), (aK BK403), (aK BK410), (aK BK417), (aK BK434), (aK BK442), (aK BK450), (aB HB)⟩
             case rest =>
              apply Classical.byContradiction
              intro hn_
              letI h_ : (0 : Nat) = 1 := (hn_ (by
               clear hn_
               clear HC240
               obtain ⟨kq, HA, HJ239, BK402, BK403, BK410, BK417, BK434, BK442, BK450, HB⟩ := hcut
               cases kq with
               | zero => exact absurd HA.out (by simp [laws_FnTrips.j5])
               | succ kj239 =>
                have H := HA.out
                clear HA
                simp only [laws_FnTrips.j5] at H
                replace H := Option.bind_eq_some_iff.mp H
                obtain ⟨⟨t460, t461, t462, t463, t464⟩, A3440, H⟩ := H
                replace H : ((impl_NextKinds.f kj239 t460 t461 t462 t463 t464).bind fun bt466 => ((spec_NextKinds.f kj239 t460 t461 t462 t463 t464).bind fun bt470 => (if (bt466.2 != bt470.2) = true then (laws_FnTrips.j6 kj239 l0 true) else ((laws_vInts.f kj239 bt466.1 bt470.1).bind fun t474 => (laws_FnTrips.j6 kj239 l0 (!t474)))))) = some r := H
                have A344 := Aside0.mk A3440
                clear A3440
                replace H := Option.bind_eq_some_iff.mp H
                obtain ⟨⟨t466, t469⟩, A3450, H⟩ := H
                replace H : ((spec_NextKinds.f kj239 t460 t461 t462 t463 t464).bind fun bt470 => (if (t469 != bt470.2) = true then (laws_FnTrips.j6 kj239 l0 true) else ((laws_vInts.f kj239 t466 bt470.1).bind fun t474 => (laws_FnTrips.j6 kj239 l0 (!t474))))) = some r := H
                have A345 := Aside0.mk A3450
                clear A3450
                replace H := Option.bind_eq_some_iff.mp H
                obtain ⟨⟨t470, t473⟩, A3460, H⟩ := H
                replace H : (if (t469 != t473) = true then (laws_FnTrips.j6 kj239 l0 true) else ((laws_vInts.f kj239 t466 t470).bind fun t474 => (laws_FnTrips.j6 kj239 l0 (!t474)))) = some r := H
                have A346 := Aside0.mk A3460
                clear A3460
                have HC347 := Aside0.mk H
                clear H
                go_upto_region 33 with (first | ((with_reducible refine gC 42 ?_); refine lA (some 185) Try.func42 (spec_DrawNextKinds.calls kj239 _ _ l0 t460 t461 t462 t463 t464 _ ?side1 ?side2 A344.out) ?_; (case side1 => repeat (first | exact (Kd.C_below HR0.out HB.out) | (with_reducible refine Kd.C_alloc ?_ _) | (with_reducible refine Kd.C_drewN ?_ _) | (with_reducible refine Kd.C_drew ?_))); (case side2 => exact HC0.out); intro w348 hb; replace BK402 := uK BK402 hb; replace BK403 := uK BK403 hb; replace BK410 := uK BK410 hb; replace BK417 := uK BK417 hb; replace BK434 := uK BK434 hb; replace BK442 := uK BK442 hb; replace BK450 := uK BK450 hb; replace HB := uB HB hb; (try clear hb); (try clear hk)) | ((with_reducible refine gD 24 ?_); refine bxE 24 25 #[.int .i64 0, .int .i64 0, .int .i64 0, .int .i64 0, .int .i64 0] fun gb465 w349 hg hbox hb => ?_; have BK465 := Aside0.mk hbox; have GE465 := gB HB hg; have ⟨NB402_465, NB465_402⟩ := nB BK402 hg; have ⟨NB403_465, NB465_403⟩ := nB BK403 hg; have ⟨NB410_465, NB465_410⟩ := nB BK410 hg; have ⟨NB417_465, NB465_417⟩ := nB BK417 hg; have ⟨NB434_465, NB465_434⟩ := nB BK434 hg; have ⟨NB442_465, NB465_442⟩ := nB BK442 hg; have ⟨NB450_465, NB465_450⟩ := nB BK450 hg; replace BK402 := uK BK402 hb; replace BK403 := uK BK403 hb; replace BK410 := uK BK410 hb; replace BK417 := uK BK417 hb; replace BK434 := uK BK434 hb; replace BK442 := uK BK442 hb; replace BK450 := uK BK450 hb; replace HB := uB HB hb; clear hb hbox hg; have hnb350 := NB465_402.out; have hnc350 := NB402_465.out; have hnb351 := NB465_403.out; have hnc351 := NB403_465.out; have hnb352 := NB465_410.out; have hnc352 := NB410_465.out; have hnb353 := NB465_417.out; have hnc353 := NB417_465.out; have hnb354 := NB465_434.out; have hnc354 := NB434_465.out; have hnb355 := NB465_442.out; have hnc355 := NB442_465.out; have hnb356 := NB465_450.out; have hnc356 := NB450_465.out; have ⟨hcz357_0, hcz357_1, hcz357_2, hcz357_3, hcz357_4, hfz357_0⟩ := cz5 BK465) | ((with_reducible refine gate_callee (f := 22) rfl ?_); refine goesL_ (some 188) rfl rfl Try.func22 (by kernel_rfl) rfl #[.agg #[.int .i64 t460, .int .i64 t461, .int .i64 t462, .int .i64 t463, .int .i64 t464]] rfl argsB ?_; (with_reducible refine (impl_NextKinds.calls kj239 t460 t461 t462 t463 t464 t466 t469 _ A345.out).mono ?_); rintro e w358 ⟨v467, rfl, ho0, hb⟩; refine ⟨_, rfl, ?_⟩; have HO468 := Aside0.mk (Kd.R_lower ho0 (below_size (bW HB))); replace BK402 := uQ BK402 hb #[.int .i64 t395, .int .i64 t396, .int .i64 t397, .int .i64 t398, .int .i64 t399]; replace BK403 := uQ BK403 hb #[.int .i64 t400, .int .i64 t401]; replace BK410 := uQ BK410 hb #[.int .i64 t404, .int .i64 t405, .int .i64 t406, .int .i64 t407, .int .i64 t408]; replace BK417 := uQ BK417 hb #[.int .i64 t411, .int .i64 t412, .int .i64 t413, .int .i64 t414, .int .i64 t415]; replace BK434 := uQ BK434 hb #[.int .i64 t426, .int .i64 t427, .int .i64 t428, .int .i64 t429, .int .i64 t430]; replace BK442 := uQ BK442 hb #[.int .i64 t435, .int .i64 t436, .int .i64 t437, .int .i64 t438, .int .i64 t439]; replace BK450 := uQ BK450 hb #[.int .i64 t443, .int .i64 t444, .int .i64 t445, .int .i64 t446, .int .i64 t447]; replace BK465 := uQ BK465 hb #[.int .i64 t460, .int .i64 t461, .int .i64 t462, .int .i64 t463, .int .i64 t464]; replace HB := uB HB hb; (try clear hb); (try clear hk); (try clear ho0); have ⟨hcz359_0, hcz359_1, hcz359_2, hcz359_3, hcz359_4, hfz359_0⟩ := cz5 BK465) | ((with_reducible refine gate_callee (f := 21) rfl ?_); refine goesL_ (some 193) rfl rfl Try.func21 (by kernel_rfl) rfl #[.agg #[.int .i64 t460, .int .i64 t461, .int .i64 t462, .int .i64 t463, .int .i64 t464]] rfl argsB ?_; (with_reducible refine (spec_NextKinds.calls kj239 t460 t461 t462 t463 t464 t470 t473 _ A346.out).mono ?_); rintro e w360 ⟨v471, rfl, ho0, hb⟩; refine ⟨_, rfl, ?_⟩; have HO472 := Aside0.mk (Kd.R_lower (Kd.R_new' ho0 (Kd.R_lt (upR HO468.out))) (below_size (bW HB))); replace HO468 := Aside0.mk (Kd.R_elder' (upR HO468.out) (Kd.R_base ho0) hb); replace BK402 := uK BK402 hb; replace BK403 := uK BK403 hb; replace BK410 := uK BK410 hb; replace BK417 := uK BK417 hb; replace BK434 := uK BK434 hb; replace BK442 := uK BK442 hb; replace BK450 := uK BK450 hb; replace BK465 := uK BK465 hb; replace HB := uB HB hb; (try clear hb); (try clear hk); (try clear ho0)))
                (try simp only [Act.put, List.setIfInBounds_toArray, List.set_cons_zero, List.set_cons_succ])
                go_cut [204] (fun v204 wc => ∃ (kq : Nat) (x204_346 : Bool), v204 = .bool x204_346 ∧ Aside0 (laws_FnTrips.j6 kq l0 x204_346 = some r) ∧ Aside0 (kq ≤ kj239) ∧ Aside0 (wc.heap[gb402]? = some (.cells #[.int .i64 t395, .int .i64 t396, .int .i64 t397, .int .i64 t398, .int .i64 t399] 25 (0, 0))) ∧ Aside0 (wc.heap[gb403]? = some (.cells #[.int .i64 t400, .int .i64 t401] 49 (0, 0))) ∧ Aside0 (wc.heap[gb410]? = some (.cells #[.int .i64 t404, .int .i64 t405, .int .i64 t406, .int .i64 t407, .int .i64 t408] 25 (0, 0))) ∧ Aside0 (wc.heap[gb417]? = some (.cells #[.int .i64 t411, .int .i64 t412, .int .i64 t413, .int .i64 t414, .int .i64 t415] 25 (0, 0))) ∧ Aside0 (wc.heap[gb434]? = some (.cells #[.int .i64 t426, .int .i64 t427, .int .i64 t428, .int .i64 t429, .int .i64 t430] 25 (0, 0))) ∧ Aside0 (wc.heap[gb442]? = some (.cells #[.int .i64 t435, .int .i64 t436, .int .i64 t437, .int .i64 t438, .int .i64 t439] 25 (0, 0))) ∧ Aside0 (wc.heap[gb450]? = some (.cells #[.int .i64 t443, .int .i64 t444, .int .i64 t445, .int .i64 t446, .int .i64 t447] 25 (0, 0))) ∧ Aside0 (wc.heap[gb465]? = some (.cells #[.int .i64 t460, .int .i64 t461, .int .i64 t462, .int .i64 t463, .int .i64 t464] 25 (0, 0))) ∧ Aside0 (Below w.heap.size w wc))
                case first =>
                 have H := HC347.out
                 clear HC347
                 by_cases c361 : (t469 != t473) = true
                 ·rw [if_pos c361] at H
                  have c361b0 : (t469 != t473) = true := c361
                  (try (have c361b1 : decide (t469 = t473) = false := by simpa using c361))
                  (try (have c361b2 : (t469 == t473) = false := by simpa using c361))
                  (try (have c361b3 : ¬ (t469 = t473) := by simpa using c361))
                  clear c361
                  (first | rw [c361b0] | (simp only [i64_w, i32_w]; rw [c361b0]) | skip)
                  have H' := Aside0.mk H
                  clear H
                  go_wp2
                  go_meet
                  case rel => exact ⟨_, (true), rB, H', ⟨by have := HJ6.out; have := HJ39.out; have := HJ170.out; have := HJ239.out; first | omega | exact Nat.le_refl _⟩, (aK BK402), (aK BK403), (aK BK410), (aK BK417), (aK BK434), (aK BK442), (aK BK450), (aK BK465), (aB HB)⟩
                 ·rw [if_neg c361] at H
                  have c361b0 : (t469 != t473) = false := by simpa using c361
                  (try (have c361b1 : decide (t469 = t473) = true := by simpa using c361))
                  (try (have c361b2 : (t469 == t473) = true := by simpa using c361))
                  clear c361
                  (first | rw [c361b0] | (simp only [i64_w, i32_w]; rw [c361b0]) | skip)
                  replace H := bA H
                  obtain ⟨t474, A362, H⟩ := H
                  have H' := Aside0.mk H
                  clear H
                  obtain ⟨Ao363, co363, eo363⟩ := Kd.R_slice HO468.out
                  subst eo363
                  obtain ⟨Ao364, co364, eo364⟩ := Kd.R_slice HO472.out
                  subst eo364
                  go_wp2_with (first | (go_at_call 43; (with_reducible refine (laws_vInts.calls kj239 _ _ t466 _ _ t470 t474 _ ?side1 ?side2 ?side3 ?side4 A362.out).mono ?_); (case side1 => repeat (first | exact (Kd.R_reads' HO468.out).2.2 | (with_reducible refine Kd.C_alloc ?_ _) | (with_reducible refine Kd.C_drewN ?_ _) | (with_reducible refine Kd.C_drew ?_))); (case side2 => exact (Kd.R_reads' HO468.out).2.1); (case side3 => repeat (first | exact (Kd.R_reads' HO472.out).2.2 | (with_reducible refine Kd.C_alloc ?_ _) | (with_reducible refine Kd.C_drewN ?_ _) | (with_reducible refine Kd.C_drew ?_))); (case side4 => exact (Kd.R_reads' HO472.out).2.1); rintro e w' ⟨rfl, ⟨nd, rfl⟩⟩))
                  go_meet
                  case rel => exact ⟨_, (!t474), rB, H', ⟨by have := HJ6.out; have := HJ39.out; have := HJ170.out; have := HJ239.out; first | omega | exact Nat.le_refl _⟩, (aK BK402), (aK BK403), (aK BK410), (aK BK417), (aK BK434), (aK BK442), (aK BK450), (aK BK465), (aB HB)⟩
                case rest =>
                 apply Classical.byContradiction
                 intro hn_
                 letI h_ : (0 : Nat) = 1 := (hn_ (by
                  clear hn_
                  clear HC347
                  try clear hcz357_0
                  try clear hcz357_1
                  try clear hcz357_2
                  try clear hcz357_3
                  try clear hcz357_4
                  try clear hcz359_0
                  try clear hcz359_1
                  try clear hcz359_2
                  try clear hcz359_3
                  try clear hcz359_4
                  try clear hfz357_0
                  try clear hfz359_0
                  obtain ⟨kq, x204_346, rfl, HA, HJ346, BK402, BK403, BK410, BK417, BK434, BK442, BK450, BK465, HB⟩ := hcut
                  cases kq with
                  | zero => exact absurd HA.out (by simp [laws_FnTrips.j6])
                  | succ kj346 =>
                   have H := HA.out
                   clear HA
                   simp only [laws_FnTrips.j6] at H
                   rcases Bool.eq_false_or_eq_true x204_346 with rfl | rfl
                   ·replace H := iT rfl H
                    exact absurd (Option.some.inj H) (by rw [hT]; decide)
                   ·replace H := iF (by decide) H
                    replace H := Option.bind_eq_some_iff.mp H
                    obtain ⟨⟨t475, t476, t477, t478, t479⟩, A3660, H⟩ := H
                    replace H : ((impl_TimeLeft.f kj346 t475 t476 t477 t478 t479).bind fun bt481 => ((spec_TimeLeft.f kj346 t475 t476 t477 t478 t479).bind fun bt483 => (if bt481.1 = bt483.1 then (if (bt481.2 == bt483.2) = true then (some (decide (bt481.1 ≥ 0))) else (some false)) else (some false)))) = some r := H
                    have A366 := Aside0.mk A3660
                    clear A3660
                    replace H := Option.bind_eq_some_iff.mp H
                    obtain ⟨⟨t481, t482⟩, A3670, H⟩ := H
                    replace H : ((spec_TimeLeft.f kj346 t475 t476 t477 t478 t479).bind fun bt483 => (if t481 = bt483.1 then (if (t482 == bt483.2) = true then (some (decide (t481 ≥ 0))) else (some false)) else (some false))) = some r := H
                    have A367 := Aside0.mk A3670
                    clear A3670
                    replace H := Option.bind_eq_some_iff.mp H
                    obtain ⟨⟨t483, t484⟩, A3680, H⟩ := H
                    replace H : (if t481 = t483 then (if (t482 == t484) = true then (some (decide (t481 ≥ 0))) else (some false)) else (some false)) = some r := H
                    have A368 := Aside0.mk A3680
                    clear A3680
                    replace H := ifI H
                    rcases H with ⟨H, -, c369b0, c369b1⟩ | ⟨H, c369, c369b0, c369b1⟩
                    ·by_cases c370 : (t482 == t484) = true
                     ·rw [if_pos c370] at H
                      have c370b0 : (t482 == t484) = true := c370
                      (try (have c370b1 : decide (t482 = t484) = true := by simpa using c370))
                      (try (have c370b2 : (t482 == t484) = true := by simpa using c370))
                      clear c370
                      obtain rfl := (Option.some.inj H)
                      go_wp2_with (first | ((with_reducible refine gC 44 ?_); refine lA (some 206) Try.func44 (spec_DrawTimeLeft.calls kj346 _ _ l0 t475 t476 t477 t478 t479 _ ?side1 ?side2 A366.out) ?_; (case side1 => repeat (first | exact (Kd.C_below HR0.out HB.out) | (with_reducible refine Kd.C_alloc ?_ _) | (with_reducible refine Kd.C_drewN ?_ _) | (with_reducible refine Kd.C_drew ?_))); (case side2 => exact HC0.out); intro w371 hb; replace BK402 := uK BK402 hb; replace BK403 := uK BK403 hb; replace BK410 := uK BK410 hb; replace BK417 := uK BK417 hb; replace BK434 := uK BK434 hb; replace BK442 := uK BK442 hb; replace BK450 := uK BK450 hb; replace BK465 := uK BK465 hb; replace HB := uB HB hb; (try clear hb); (try clear hk)) | ((with_reducible refine gD 29 ?_); refine bxE 29 25 #[.int .i64 0, .int .i64 0, .int .i64 0, .int .i64 0, .int .i64 0] fun gb480 w372 hg hbox hb => ?_; have BK480 := Aside0.mk hbox; have GE480 := gB HB hg; have ⟨NB402_480, NB480_402⟩ := nB BK402 hg; have ⟨NB403_480, NB480_403⟩ := nB BK403 hg; have ⟨NB410_480, NB480_410⟩ := nB BK410 hg; have ⟨NB417_480, NB480_417⟩ := nB BK417 hg; have ⟨NB434_480, NB480_434⟩ := nB BK434 hg; have ⟨NB442_480, NB480_442⟩ := nB BK442 hg; have ⟨NB450_480, NB480_450⟩ := nB BK450 hg; have ⟨NB465_480, NB480_465⟩ := nB BK465 hg; replace BK402 := uK BK402 hb; replace BK403 := uK BK403 hb; replace BK410 := uK BK410 hb; replace BK417 := uK BK417 hb; replace BK434 := uK BK434 hb; replace BK442 := uK BK442 hb; replace BK450 := uK BK450 hb; replace BK465 := uK BK465 hb; replace HB := uB HB hb; clear hb hbox hg; have hnb373 := NB480_402.out; have hnc373 := NB402_480.out; have hnb374 := NB480_403.out; have hnc374 := NB403_480.out; have hnb375 := NB480_410.out; have hnc375 := NB410_480.out; have hnb376 := NB480_417.out; have hnc376 := NB417_480.out; have hnb377 := NB480_434.out; have hnc377 := NB434_480.out; have hnb378 := NB480_442.out; have hnc378 := NB442_480.out; have hnb379 := NB480_450.out; have hnc379 := NB450_480.out; have hnb380 := NB480_465.out; have hnc380 := NB465_480.out; have ⟨hcz381_0, hcz381_1, hcz381_2, hcz381_3, hcz381_4, hfz381_0⟩ := cz5 BK480) | ((with_reducible refine gC 15 ?_); refine lA (some 209) Try.func15 (impl_TimeLeft.calls kj346 t475 t476 t477 t478 t479 t481 t482 _ A367.out) ?_; intro w382 hb; replace BK402 := uQ BK402 hb #[.int .i64 t395, .int .i64 t396, .int .i64 t397, .int .i64 t398, .int .i64 t399]; replace BK403 := uQ BK403 hb #[.int .i64 t400, .int .i64 t401]; replace BK410 := uQ BK410 hb #[.int .i64 t404, .int .i64 t405, .int .i64 t406, .int .i64 t407, .int .i64 t408]; replace BK417 := uQ BK417 hb #[.int .i64 t411, .int .i64 t412, .int .i64 t413, .int .i64 t414, .int .i64 t415]; replace BK434 := uQ BK434 hb #[.int .i64 t426, .int .i64 t427, .int .i64 t428, .int .i64 t429, .int .i64 t430]; replace BK442 := uQ BK442 hb #[.int .i64 t435, .int .i64 t436, .int .i64 t437, .int .i64 t438, .int .i64 t439]; replace BK450 := uQ BK450 hb #[.int .i64 t443, .int .i64 t444, .int .i64 t445, .int .i64 t446, .int .i64 t447]; replace BK465 := uQ BK465 hb #[.int .i64 t460, .int .i64 t461, .int .i64 t462, .int .i64 t463, .int .i64 t464]; replace BK480 := uQ BK480 hb #[.int .i64 t475, .int .i64 t476, .int .i64 t477, .int .i64 t478, .int .i64 t479]; replace HB := uB HB hb; (try clear hb); (try clear hk); have ⟨hcz383_0, hcz383_1, hcz383_2, hcz383_3, hcz383_4, hfz383_0⟩ := cz5 BK480) | ((with_reducible refine gC 14 ?_); refine lA (some 214) Try.func14 (spec_TimeLeft.calls kj346 t475 t476 t477 t478 t479 t483 t484 _ A368.out) ?_; intro w384 hb; replace BK402 := uK BK402 hb; replace BK403 := uK BK403 hb; replace BK410 := uK BK410 hb; replace BK417 := uK BK417 hb; replace BK434 := uK BK434 hb; replace BK442 := uK BK442 hb; replace BK450 := uK BK450 hb; replace BK465 := uK BK465 hb; replace BK480 := uK BK480 hb; replace HB := uB HB hb; (try clear hb); (try clear hk)))
                      go_ret
                      exact ⟨eB, (bW HB)⟩
                     ·rw [if_neg c370] at H
                      have c370b0 : (t482 == t484) = false := by simpa using c370
                      (try (have c370b1 : decide (t482 = t484) = false := by simpa using c370))
                      (try (have c370b2 : (t482 == t484) = false := by simpa using c370))
                      (try (have c370b3 : ¬ (t482 = t484) := by simpa using c370))
                      clear c370
                      exact absurd (Option.some.inj H) (by rw [hT]; decide)
                    ·exact absurd (Option.some.inj H) (by rw [hT]; decide)
                  )).elim
                 omega
               )).elim
              omega
           )).elim
          omega
        )).elim
       omega
    )).elim
   omega
/-- THE ONE PURE STATEMENT of laws_FnTrips: yours. -/

def laws_FnTrips.Pure : Prop := ∀ (l0 : List Int), l0.length ≤ maxLen → l0.length * 1 ≤ 140737488351232 → (∀ x ∈ l0, (Lit.int .u8 x).wf = true) → ∃ k, laws_FnTrips.f k l0 = some true
theorem laws_FnTrips.walk (P : laws_FnTrips.Pure) (a0 : Option Addr) (len0 cap0 : Nat) (z0 : List Int) (w : World) (w0 : (a0 = none ∧ len0 = 0 ∧ cap0 = 0 ∧ z0 = []) ∨ ∃ x, a0 = some x ∧ len0 ≤ cap0 ∧ cap0 ≤ maxLen ∧ z0.length = cap0 ∧ (∀ i, i < z0.length → w.cell? (x.add i) = some (.int .u8 (z0.getD i 0))) ∧ ∀ n ∈ z0, (Lit.int .u8 n).wf = true) (y0 : len0 * 1 ≤ 140737488351232) :
  Calls Try.prog 10 #[.slice a0 len0 cap0] w fun e w' => e = .returned (.bool true) ∧ Below w.heap.size w w' := by
 obtain ⟨l0, rfl, hr0, hm0, hw0, hc0⟩ := ReadsInt.ofRowC w0
 obtain ⟨k, h⟩ := P l0 hm0 y0 hw0
 refine (laws_FnTrips.calls k _ _ l0 true w (Kd.C_of_reads (d := (0 : Int)) (h1 := fun _ => rfl) hr0) hc0 h rfl).mono ?_
 rintro e w' ⟨rfl, hd⟩
 exact ⟨rfl, hd⟩

end Go.Proofs.Ytmeaacbnjpgepaa.QFnTrips
