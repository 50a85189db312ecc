/- Contracts of Go functions that FnTripLists reaches: the call computes what the plain function says. No condition. -/
import Derived.Test.YtmeaacbnjpgepaaGreatDoorQFnTripListsx0
import Derived.Test.YtmeaacbnjpgepaaGreatDoorQFnTripListsx1
import Derived.Test.YtmeaacbnjpgepaaGreatDoorQFnTripListsx2
import Derived.Test.YtmeaacbnjpgepaaGreatDoorQFnTripListsx5
import Derived.Test.YtmeaacbnjpgepaaGreatDoorQFnTripListsx7
import Derived.Test.YtmeaacbnjpgepaaGreatDoorQFnTripListsx8
import Derived.Test.YtmeaacbnjpgepaaGreatDoorQFnTripListsx9
import Derived.Test.YtmeaacbnjpgepaaGreatDoorQFnTripListsx10
import Derived.Test.YtmeaacbnjpgepaaGreatDoorQFnTripListsx12
import Derived.Test.YtmeaacbnjpgepaaGreatDoorQFnTripListsx13
import Derived.Test.YtmeaacbnjpgepaaGreatDoorQFnTripListsx14
namespace Go.Proofs.YtmeaacbnjpgepaaGreatDoor.QFnTripLists
open Go.RowKit Go.Proofs.YtmeaacbnjpgepaaGreatDoorW.PrintWords Go.Proofs.YtmeaacbnjpgepaaGreatDoorW.PrintLast Go.Proofs.YtmeaacbnjpgepaaGreatDoorW.PrintMore
attribute [local go_sem] max2_int min2_int max_two min_two max_three min_three max_four min_four   -- for this text's walks alone
set_option linter.unusedVariables false
set_option linter.unusedSimpArgs false

attribute [local go_sem high] eqA25
/-! ### laws_FnTripLists: function 3 -/
mutual
def laws_FnTripLists.j0 : Nat → List Int → Bool → Option (Bool)
 | 0, _, _ => none
 | k + 1, x0, x72 => if x72 = true then (some false) else ((spec_DrawParseTrip.f k x0).bind fun t464 => ((impl_ParseTrip.f k t464).bind fun bt465 => ((impl_TripText.f k bt465.1 bt465.2.1 bt465.2.2.1 bt465.2.2.2.1 bt465.2.2.2.2.1).bind fun bt472 => ((spec_ParseTrip.f k t464).bind fun bt474 => (if (!(bt465.1 == bt474.1) || (!(bt465.2.1 == bt474.2.1) || (!(bt465.2.2.1 == bt474.2.2.1) || (!(bt465.2.2.2.1 == bt474.2.2.2.1) || (!(bt465.2.2.2.2.1 == bt474.2.2.2.2.1)))))) = true then (laws_FnTripLists.j1 k x0 true) else (if (bt465.2.2.2.2.2 != bt474.2.2.2.2.2) = true then (laws_FnTripLists.j1 k x0 true) else (if bt465.2.2.2.2.2 = true then (if bt472.2 = true then (laws_FnTripLists.j1 k x0 (bt472.1.toList != t464.toList)) else (laws_FnTripLists.j1 k x0 true)) else (laws_FnTripLists.j1 k x0 false))))))))
def laws_FnTripLists.j1 : Nat → List Int → Bool → Option (Bool)
 | 0, _, _ => none
 | k + 1, x0, x109 => if x109 = true then (some false) else ((spec_DrawOverdueTrips.f k x0).bind fun bt481 => ((impl_OverdueTrips.f k bt481.1 bt481.2).bind fun bt485 => ((spec_OverdueTrips.f k bt481.1 bt481.2).bind fun bt489 => (if (bt485.2 != bt489.2) = true then (laws_FnTripLists.j2 k x0 bt481.1 bt481.2 bt485.1 bt485.2 true) else ((laws_vInts.f k bt485.1 bt489.1).bind fun t493 => (laws_FnTripLists.j2 k x0 bt481.1 bt481.2 bt485.1 bt485.2 (!t493)))))))
def laws_FnTripLists.j2 : Nat → List Int → List (S25) → Int → List Int → Bool → Bool → Option (Bool)
 | 0, _, _, _, _, _, _ => none
 | k + 1, x0, x17, x18, x19, x20, x135 => if x135 = true then (some false) else (if x20 = true then (laws_FnTripLists.j3 k x0 x17 x18 x19 (decide (x18 < 999))) else (laws_FnTripLists.j3 k x0 x17 x18 x19 false))
def laws_FnTripLists.j3 : Nat → List Int → List (S25) → Int → List Int → Bool → Option (Bool)
 | 0, _, _, _, _, _ => none
 | k + 1, x0, x17, x18, x19, x140 => if x140 = true then ((impl_OverdueTrips.f k x17 (wrap64 (x18 + 1))).bind fun bt494 => (if bt494.2 = true then ((laws_vWithin.f k x19 bt494.1).bind fun t498 => (if t498 = true then (laws_FnTripLists.j4 k x0) else (some false))) else (some false))) else (laws_FnTripLists.j4 k x0)
def laws_FnTripLists.j4 : Nat → List Int → Option (Bool)
 | 0, _ => none
 | k + 1, x0 => (spec_DrawPeopleInside.f k x0).bind fun t499 => ((impl_PeopleInside.f k t499).bind fun bt502 => ((spec_PeopleInside.f k t499).bind fun bt504 => (if bt502.1 = bt504.1 then (laws_FnTripLists.j5 k t499 bt502.1 bt502.2 (bt502.2 != bt504.2)) else (laws_FnTripLists.j5 k t499 bt502.1 bt502.2 true))))
def laws_FnTripLists.j5 : Nat → List (S25) → Int → Bool → Bool → Option (Bool)
 | 0, _, _, _, _ => none
 | k + 1, x25, x26, x27, x175 => if x175 = true then (some false) else (if x27 = true then (laws_FnTripLists.j6 k x25 x26 (decide ((x25.length : Int) > 0))) else (laws_FnTripLists.j6 k x25 x26 false))
def laws_FnTripLists.j6 : Nat → List (S25) → Int → Bool → Option (Bool)
 | 0, _, _, _ => none
 | k + 1, x25, x26, x181 => if x181 = true then (if 1 ≤ (x25.length : Int) then ((impl_PeopleInside.f k (x25.take 1)).bind fun bt510 => ((impl_PeopleInside.f k (x25.drop 1)).bind fun bt516 => (if bt510.2 = true then (if bt516.2 = true then (some ((wrap64 (bt510.1 + bt516.1)) == x26)) else (some false)) else (some false)))) else (none)) else (some true)
end
def laws_FnTripLists.f (k : Nat) (l0 : List Int) : Option (Bool) := (laws_vBig.f l0).bind fun t446 => (if t446 = true then (some true) else ((spec_DrawTripText.f k l0).bind fun bt447 => ((impl_TripText.f k bt447.1 bt447.2.1 bt447.2.2.1 bt447.2.2.2.1 bt447.2.2.2.2).bind fun bt453 => ((impl_ParseTrip.f k bt453.1).bind fun bt455 => ((spec_TripText.f k bt447.1 bt447.2.1 bt447.2.2.1 bt447.2.2.2.1 bt447.2.2.2.2).bind fun bt462 => (if bt453.1.toList = bt462.1.toList then (if (bt453.2 != bt462.2) = true then (laws_FnTripLists.j0 k l0 true) else (if bt453.2 = true then (if bt455.2.2.2.2.2 = true then (laws_FnTripLists.j0 k l0 (!(bt455.1 == bt447.1) || (!(bt455.2.1 == bt447.2.1) || (!(bt455.2.2.1 == bt447.2.2.1) || (!(bt455.2.2.2.1 == bt447.2.2.2.1) || (!(bt455.2.2.2.2.1 == bt447.2.2.2.2))))))) else (laws_FnTripLists.j0 k l0 true)) else (laws_FnTripLists.j0 k l0 false))) else (laws_FnTripLists.j0 k l0 true)))))))
theorem laws_FnTripLists.mono_l : ∀ k, (∀ y0 y1, LeO (laws_FnTripLists.j0 k y0 y1) (laws_FnTripLists.j0 (k + 1) y0 y1)) ∧ (∀ y0 y1, LeO (laws_FnTripLists.j1 k y0 y1) (laws_FnTripLists.j1 (k + 1) y0 y1)) ∧ (∀ y0 y1 y2 y3 y4 y5, LeO (laws_FnTripLists.j2 k y0 y1 y2 y3 y4 y5) (laws_FnTripLists.j2 (k + 1) y0 y1 y2 y3 y4 y5)) ∧ (∀ y0 y1 y2 y3 y4, LeO (laws_FnTripLists.j3 k y0 y1 y2 y3 y4) (laws_FnTripLists.j3 (k + 1) y0 y1 y2 y3 y4)) ∧ (∀ y0, LeO (laws_FnTripLists.j4 k y0) (laws_FnTripLists.j4 (k + 1) y0)) ∧ (∀ y0 y1 y2 y3, LeO (laws_FnTripLists.j5 k y0 y1 y2 y3) (laws_FnTripLists.j5 (k + 1) y0 y1 y2 y3)) ∧ (∀ y0 y1 y2, LeO (laws_FnTripLists.j6 k y0 y1 y2) (laws_FnTripLists.j6 (k + 1) y0 y1 y2))
 | 0 => ⟨fun _ _ r h => by simp [laws_FnTripLists.j0] at h, fun _ _ r h => by simp [laws_FnTripLists.j1] at h, fun _ _ _ _ _ _ r h => by simp [laws_FnTripLists.j2] at h, fun _ _ _ _ _ r h => by simp [laws_FnTripLists.j3] at h, fun _ r h => by simp [laws_FnTripLists.j4] at h, fun _ _ _ _ r h => by simp [laws_FnTripLists.j5] at h, fun _ _ _ r h => by simp [laws_FnTripLists.j6] at h⟩
 | k + 1 => by
  obtain ⟨ih0, ih1, ih2, ih3, ih4, ih5, ih6⟩ := laws_FnTripLists.mono_l k
  refine ⟨?_, ?_, ?_, ?_, ?_, ?_, ?_⟩
  ·intro y0 y1
   unfold laws_FnTripLists.j0
   repeat' with_reducible first | apply ih0 | apply ih1 | apply ih2 | apply ih3 | apply ih4 | apply ih5 | apply ih6 | apply impl_OverdueTrips.mono | apply impl_ParseTrip.mono | apply impl_PeopleInside.mono | apply impl_TripText.mono | apply laws_vInts.mono | apply laws_vWithin.mono | apply spec_DrawOverdueTrips.mono | apply spec_DrawParseTrip.mono | apply spec_DrawPeopleInside.mono | apply spec_DrawTripText.mono | apply spec_OverdueTrips.mono | apply spec_ParseTrip.mono | apply spec_PeopleInside.mono | apply spec_TripText.mono | exact LeO.refl _ | exact LeO.none _ | refine LeO.ite ?_ ?_ | refine LeO.bind ?_ (fun _ => ?_)
  ·intro y0 y1
   unfold laws_FnTripLists.j1
   repeat' with_reducible first | apply ih0 | apply ih1 | apply ih2 | apply ih3 | apply ih4 | apply ih5 | apply ih6 | apply impl_OverdueTrips.mono | apply impl_ParseTrip.mono | apply impl_PeopleInside.mono | apply impl_TripText.mono | apply laws_vInts.mono | apply laws_vWithin.mono | apply spec_DrawOverdueTrips.mono | apply spec_DrawParseTrip.mono | apply spec_DrawPeopleInside.mono | apply spec_DrawTripText.mono | apply spec_OverdueTrips.mono | apply spec_ParseTrip.mono | apply spec_PeopleInside.mono | apply spec_TripText.mono | exact LeO.refl _ | exact LeO.none _ | refine LeO.ite ?_ ?_ | refine LeO.bind ?_ (fun _ => ?_)
  ·intro y0 y1 y2 y3 y4 y5
   unfold laws_FnTripLists.j2
   repeat' with_reducible first | apply ih0 | apply ih1 | apply ih2 | apply ih3 | apply ih4 | apply ih5 | apply ih6 | apply impl_OverdueTrips.mono | apply impl_ParseTrip.mono | apply impl_PeopleInside.mono | apply impl_TripText.mono | apply laws_vInts.mono | apply laws_vWithin.mono | apply spec_DrawOverdueTrips.mono | apply spec_DrawParseTrip.mono | apply spec_DrawPeopleInside.mono | apply spec_DrawTripText.mono | apply spec_OverdueTrips.mono | apply spec_ParseTrip.mono | apply spec_PeopleInside.mono | apply spec_TripText.mono | exact LeO.refl _ | exact LeO.none _ | refine LeO.ite ?_ ?_ | refine LeO.bind ?_ (fun _ => ?_)
  ·intro y0 y1 y2 y3 y4
   unfold laws_FnTripLists.j3
   repeat' with_reducible first | apply ih0 | apply ih1 | apply ih2 | apply ih3 | apply ih4 | apply ih5 | apply ih6 | apply impl_OverdueTrips.mono | apply impl_ParseTrip.mono | apply impl_PeopleInside.mono | apply impl_TripText.mono | apply laws_vInts.mono | apply laws_vWithin.mono | apply spec_DrawOverdueTrips.mono | apply spec_DrawParseTrip.mono | apply spec_DrawPeopleInside.mono | apply spec_DrawTripText.mono | apply spec_OverdueTrips.mono | apply spec_ParseTrip.mono | apply spec_PeopleInside.mono | apply spec_TripText.mono | exact LeO.refl _ | exact LeO.none _ | refine LeO.ite ?_ ?_ | refine LeO.bind ?_ (fun _ => ?_)
  ·intro y0
   unfold laws_FnTripLists.j4
   repeat' with_reducible first | apply ih0 | apply ih1 | apply ih2 | apply ih3 | apply ih4 | apply ih5 | apply ih6 | apply impl_OverdueTrips.mono | apply impl_ParseTrip.mono | apply impl_PeopleInside.mono | apply impl_TripText.mono | apply laws_vInts.mono | apply laws_vWithin.mono | apply spec_DrawOverdueTrips.mono | apply spec_DrawParseTrip.mono | apply spec_DrawPeopleInside.mono | apply spec_DrawTripText.mono | apply spec_OverdueTrips.mono | apply spec_ParseTrip.mono | apply spec_PeopleInside.mono | apply spec_TripText.mono | exact LeO.refl _ | exact LeO.none _ | refine LeO.ite ?_ ?_ | refine LeO.bind ?_ (fun _ => ?_)
  ·intro y0 y1 y2 y3
   unfold laws_FnTripLists.j5
   repeat' with_reducible first | apply ih0 | apply ih1 | apply ih2 | apply ih3 | apply ih4 | apply ih5 | apply ih6 | apply impl_OverdueTrips.mono | apply impl_ParseTrip.mono | apply impl_PeopleInside.mono | apply impl_TripText.mono | apply laws_vInts.mono | apply laws_vWithin.mono | apply spec_DrawOverdueTrips.mono | apply spec_DrawParseTrip.mono | apply spec_DrawPeopleInside.mono | apply spec_DrawTripText.mono | apply spec_OverdueTrips.mono | apply spec_ParseTrip.mono | apply spec_PeopleInside.mono | apply spec_TripText.mono | exact LeO.refl _ | exact LeO.none _ | refine LeO.ite ?_ ?_ | refine LeO.bind ?_ (fun _ => ?_)
  ·intro y0 y1 y2
   unfold laws_FnTripLists.j6
   repeat' with_reducible first | apply ih0 | apply ih1 | apply ih2 | apply ih3 | apply ih4 | apply ih5 | apply ih6 | apply impl_OverdueTrips.mono | apply impl_ParseTrip.mono | apply impl_PeopleInside.mono | apply impl_TripText.mono | apply laws_vInts.mono | apply laws_vWithin.mono | apply spec_DrawOverdueTrips.mono | apply spec_DrawParseTrip.mono | apply spec_DrawPeopleInside.mono | apply spec_DrawTripText.mono | apply spec_OverdueTrips.mono | apply spec_ParseTrip.mono | apply spec_PeopleInside.mono | apply spec_TripText.mono | exact LeO.refl _ | exact LeO.none _ | refine LeO.ite ?_ ?_ | refine LeO.bind ?_ (fun _ => ?_)
theorem laws_FnTripLists.mono : ∀ a0 k, LeO (laws_FnTripLists.f k a0) (laws_FnTripLists.f (k + 1) a0) := by
 intro a0 k
 obtain ⟨ih0, ih1, ih2, ih3, ih4, ih5, ih6⟩ := laws_FnTripLists.mono_l k
 unfold laws_FnTripLists.f
 repeat' with_reducible first | apply ih0 | apply ih1 | apply ih2 | apply ih3 | apply ih4 | apply ih5 | apply ih6 | apply impl_OverdueTrips.mono | apply impl_ParseTrip.mono | apply impl_PeopleInside.mono | apply impl_TripText.mono | apply laws_vInts.mono | apply laws_vWithin.mono | apply spec_DrawOverdueTrips.mono | apply spec_DrawParseTrip.mono | apply spec_DrawPeopleInside.mono | apply spec_DrawTripText.mono | apply spec_OverdueTrips.mono | apply spec_ParseTrip.mono | apply spec_PeopleInside.mono | apply spec_TripText.mono | exact LeO.refl _ | exact LeO.none _ | refine LeO.ite ?_ ?_ | refine LeO.bind ?_ (fun _ => ?_)
set_option maxHeartbeats 8000000 in
set_option maxRecDepth 100000 in
theorem laws_FnTripLists.calls (k : Nat) (A0 : Option Addr) (c0 : Nat) (l0 : List Int) (r : Bool) (w : World) (hr0 : Kd.C (Kd.int .u8) w A0 l0.length l0) (hc0 : l0.length ≤ c0) (h : laws_FnTripLists.f k l0 = some r) (hT : r = true) (hTW : TabW w) :
  Calls Tryz.prog 3 #[.slice A0 l0.length c0] w fun e w' => e = .returned (.bool r) ∧ Below w.heap.size w w' := by
 have hu25 := Tryz.underlying25
 have HR0 := Aside0.mk hr0
 have HC0 := Aside0.mk hc0
 clear hr0 hc0
 have HB := Aside0.mk (Below.refl w.heap.size w)
 have H := h
 clear h
 unfold laws_FnTripLists.f at H
 replace H := bA H
 obtain ⟨t446, A2, H⟩ := H
 rcases Bool.eq_false_or_eq_true t446 with rfl | rfl
 ·replace H := iT rfl H
  obtain rfl := (Option.some.inj H)
  go_enter Tryz.func3, Tryz.ntmps3
  go_wp2_with (first | ((with_reducible refine gC 4 ?_); refine lA (some 35) Tryz.func4 (laws_vBig.calls _ _ l0 true _ ?side1 ?side2 A2.out) ?_; (case side1 => repeat (first | exact HR0.out | (with_reducible refine Kd.C_alloc ?_ _) | (with_reducible refine Kd.C_drewN ?_ _) | (with_reducible refine Kd.C_drew ?_))); (case side2 => exact HC0.out); rintro _ ⟨nd, rfl⟩))
  go_ret
  exact ⟨eB, (bW HB)⟩
 ·replace H := iF (by decide) H
  replace H := Option.bind_eq_some_iff.mp H
  obtain ⟨⟨t447, t448, t449, t450, t451⟩, A40, H⟩ := H
  replace H : ((impl_TripText.f k t447 t448 t449 t450 t451).bind fun bt453 => ((impl_ParseTrip.f k bt453.1).bind fun bt455 => ((spec_TripText.f k t447 t448 t449 t450 t451).bind fun bt462 => (if bt453.1.toList = bt462.1.toList then (if (bt453.2 != bt462.2) = true then (laws_FnTripLists.j0 k l0 true) else (if bt453.2 = true then (if bt455.2.2.2.2.2 = true then (laws_FnTripLists.j0 k l0 (!(bt455.1 == t447) || (!(bt455.2.1 == t448) || (!(bt455.2.2.1 == t449) || (!(bt455.2.2.2.1 == t450) || (!(bt455.2.2.2.2.1 == t451))))))) else (laws_FnTripLists.j0 k l0 true)) else (laws_FnTripLists.j0 k l0 false))) else (laws_FnTripLists.j0 k l0 true))))) = some r := H
  have A4 := Aside0.mk A40
  clear A40
  replace H := Option.bind_eq_some_iff.mp H
  obtain ⟨⟨t453, t454⟩, A50, H⟩ := H
  replace H : ((impl_ParseTrip.f k t453).bind fun bt455 => ((spec_TripText.f k t447 t448 t449 t450 t451).bind fun bt462 => (if t453.toList = bt462.1.toList then (if (t454 != bt462.2) = true then (laws_FnTripLists.j0 k l0 true) else (if t454 = true then (if bt455.2.2.2.2.2 = true then (laws_FnTripLists.j0 k l0 (!(bt455.1 == t447) || (!(bt455.2.1 == t448) || (!(bt455.2.2.1 == t449) || (!(bt455.2.2.2.1 == t450) || (!(bt455.2.2.2.2.1 == t451))))))) else (laws_FnTripLists.j0 k l0 true)) else (laws_FnTripLists.j0 k l0 false))) else (laws_FnTripLists.j0 k l0 true)))) = some r := H
  have A5 := Aside0.mk A50
  clear A50
  replace H := Option.bind_eq_some_iff.mp H
  obtain ⟨⟨t455, t456, t457, t458, t459, t460⟩, A60, H⟩ := H
  replace H : ((spec_TripText.f k t447 t448 t449 t450 t451).bind fun bt462 => (if t453.toList = bt462.1.toList then (if (t454 != bt462.2) = true then (laws_FnTripLists.j0 k l0 true) else (if t454 = true then (if t460 = true then (laws_FnTripLists.j0 k l0 (!(t455 == t447) || (!(t456 == t448) || (!(t457 == t449) || (!(t458 == t450) || (!(t459 == t451))))))) else (laws_FnTripLists.j0 k l0 true)) else (laws_FnTripLists.j0 k l0 false))) else (laws_FnTripLists.j0 k l0 true))) = some r := H
  have A6 := Aside0.mk A60
  clear A60
  replace H := Option.bind_eq_some_iff.mp H
  obtain ⟨⟨t462, t463⟩, A70, H⟩ := H
  replace H : (if t453.toList = t462.toList then (if (t454 != t463) = true then (laws_FnTripLists.j0 k l0 true) else (if t454 = true then (if t460 = true then (laws_FnTripLists.j0 k l0 (!(t455 == t447) || (!(t456 == t448) || (!(t457 == t449) || (!(t458 == t450) || (!(t459 == t451))))))) else (laws_FnTripLists.j0 k l0 true)) else (laws_FnTripLists.j0 k l0 false))) else (laws_FnTripLists.j0 k l0 true)) = some r := H
  have A7 := Aside0.mk A70
  clear A70
  have HC8 := Aside0.mk H
  clear H
  go_enter Tryz.func3, Tryz.ntmps3
  go_upto_region 7 with (first | ((with_reducible refine gC 4 ?_); refine lA (some 35) Tryz.func4 (laws_vBig.calls _ _ l0 false _ ?side1 ?side2 A2.out) ?_; (case side1 => repeat (first | exact HR0.out | (with_reducible refine Kd.C_alloc ?_ _) | (with_reducible refine Kd.C_drewN ?_ _) | (with_reducible refine Kd.C_drew ?_))); (case side2 => exact HC0.out); rintro _ ⟨nd, rfl⟩) | ((with_reducible refine gC 5 ?_); refine lA (some 37) Tryz.func5 (spec_DrawTripText.calls k _ _ l0 t447 t448 t449 t450 t451 _ ?side1 ?side2 A4.out) ?_; (case side1 => repeat (first | exact HR0.out | (with_reducible refine Kd.C_alloc ?_ _) | (with_reducible refine Kd.C_drewN ?_ _) | (with_reducible refine Kd.C_drew ?_))); (case side2 => exact HC0.out); intro w9 hb; replace HB := uB HB hb; (try clear hb); (try clear hk)) | ((with_reducible refine gD 3 ?_); (try (refine gate_guard (by rfl) ?_; dsimp only)); refine bxE 3 25 #[.int .i64 0, .int .i64 0, .int .i64 0, .int .i64 0, .int .i64 0] fun gb452 w10 hg hbox hb => ?_; have BK452 := Aside0.mk hbox; have GE452 := gB HB hg; replace HB := uB HB hb; clear hb hbox hg; have ⟨hcz11_0, hcz11_1, hcz11_2, hcz11_3, hcz11_4, hfz11_0⟩ := cz5 BK452) | ((with_reducible refine gC 6 ?_); refine lA (some 40) Tryz.func6 (impl_TripText.calls k t447 t448 t449 t450 t451 t453 t454 _ A5.out (TabW.up2 hTW HB.out)) ?_; intro w12 hb; replace BK452 := uQ BK452 hb #[.int .i64 t447, .int .i64 t448, .int .i64 t449, .int .i64 t450, .int .i64 t451]; replace HB := uB HB hb; (try clear hb); (try clear hk)) | ((with_reducible refine gC 7 ?_); refine lA (some 45) Tryz.func7 (impl_ParseTrip.calls k t453 t455 t456 t457 t458 t459 t460 _ A6.out (TabW.up2 hTW HB.out)) ?_; intro w13 hb; replace BK452 := uK BK452 hb; replace HB := uB HB hb; (try clear hb); (try clear hk)) | ((with_reducible refine gD 6 ?_); (try (refine gate_guard (by rfl) ?_; dsimp only)); refine bxE 6 25 #[.int .i64 0, .int .i64 0, .int .i64 0, .int .i64 0, .int .i64 0] fun gb461 w14 hg hbox hb => ?_; have BK461 := Aside0.mk hbox; have GE461 := gB HB hg; have ⟨NB452_461, NB461_452⟩ := nB BK452 hg; replace BK452 := uK BK452 hb; replace HB := uB HB hb; clear hb hbox hg; have hnb15 := NB461_452.out; have hnc15 := NB452_461.out; have ⟨hcz16_0, hcz16_1, hcz16_2, hcz16_3, hcz16_4, hfz16_0⟩ := cz5 BK461; have ⟨hcz17_0, hcz17_1, hcz17_2, hcz17_3, hcz17_4, hfz17_0⟩ := cz5 BK452) | ((with_reducible refine gC 8 ?_); refine lA (some 50) Tryz.func8 (spec_TripText.calls k t447 t448 t449 t450 t451 t462 t463 _ A7.out) ?_; intro w18 hb; replace BK452 := uQ BK452 hb #[.int .i64 t447, .int .i64 t448, .int .i64 t449, .int .i64 t450, .int .i64 t451]; replace BK461 := uQ BK461 hb #[.int .i64 t455, .int .i64 t456, .int .i64 t457, .int .i64 t458, .int .i64 t459]; replace HB := uB HB hb; (try clear hb); (try clear hk)))
  (try simp only [Act.put, List.setIfInBounds_toArray, List.set_cons_zero, List.set_cons_succ])
  go_cut [72] (fun v72 wc => ∃ (kq : Nat) (x72_7 : Bool), v72 = .bool x72_7 ∧ Aside0 (laws_FnTripLists.j0 kq l0 x72_7 = some r) ∧ Aside0 (kq ≤ k) ∧ Aside0 (wc.heap[gb452]? = some (.cells #[.int .i64 t447, .int .i64 t448, .int .i64 t449, .int .i64 t450, .int .i64 t451] 25 (0, 0))) ∧ Aside0 (wc.heap[gb461]? = some (.cells #[.int .i64 t455, .int .i64 t456, .int .i64 t457, .int .i64 t458, .int .i64 t459] 25 (0, 0))) ∧ Aside0 (Below w.heap.size w wc))
  case first =>
   have H := HC8.out
   clear HC8
   replace H := ifI H
   rcases H with ⟨H, -, c19b0, c19b1⟩ | ⟨H, c19, c19b0, c19b1⟩
   ·(first | rw [c19b0] | (simp only [i64_w, i32_w]; rw [c19b0]) | skip)
    by_cases c20 : (t454 != t463) = true
    ·rw [if_pos c20] at H
     have c20b0 : (t454 != t463) = true := c20
     (try (have c20b1 : decide (t454 = t463) = false := by simpa using c20))
     (try (have c20b2 : (t454 == t463) = false := by simpa using c20))
     (try (have c20b3 : ¬ (t454 = t463) := by simpa using c20))
     clear c20
     have H' := Aside0.mk H
     clear H
     go_wp2
     go_meet
     case rel => exact ⟨_, (true), rB, H', leB, (aK BK452), (aK BK461), (aB HB)⟩
    ·rw [if_neg c20] at H
     have c20b0 : (t454 != t463) = false := by simpa using c20
     (try (have c20b1 : decide (t454 = t463) = true := by simpa using c20))
     (try (have c20b2 : (t454 == t463) = true := by simpa using c20))
     clear c20
     rcases Bool.eq_false_or_eq_true t454 with rfl | rfl
     ·replace H := iT rfl H
      rcases Bool.eq_false_or_eq_true t460 with rfl | rfl
      ·replace H := iT rfl H
       have H' := Aside0.mk H
       clear H
       have hnb23 := NB461_452.out
       have hnc23 := NB452_461.out
       have ⟨hcz24_0, hcz24_1, hcz24_2, hcz24_3, hcz24_4, hfz24_0⟩ := cz5 BK461
       have ⟨hcz25_0, hcz25_1, hcz25_2, hcz25_3, hcz25_4, hfz25_0⟩ := cz5 BK452
       go_wp2
       go_meet
       case rel => exact ⟨_, ((!(t455 == t447) || (!(t456 == t448) || (!(t457 == t449) || (!(t458 == t450) || (!(t459 == t451))))))), rB, H', leB, (aK BK452), (aK BK461), (aB HB)⟩
      ·replace H := iF (by decide) H
       have H' := Aside0.mk H
       clear H
       go_wp2
       go_meet
       case rel => exact ⟨_, (true), rB, H', leB, (aK BK452), (aK BK461), (aB HB)⟩
     ·replace H := iF (by decide) H
      have H' := Aside0.mk H
      clear H
      go_wp2
      go_meet
      case rel => exact ⟨_, (false), rB, H', leB, (aK BK452), (aK BK461), (aB HB)⟩
   ·(first | rw [c19b0] | (simp only [i64_w, i32_w]; rw [c19b0]) | skip)
    have H' := Aside0.mk H
    clear H
    go_wp2
    go_meet
    case rel => exact ⟨_, (true), rB, H', leB, (aK BK452), (aK BK461), (aB HB)⟩
  case rest =>
   apply Classical.byContradiction
   intro hn_
   letI h_ : (0 : Nat) = 1 := (hn_ (by
    clear hn_
    clear HC8
    try clear hcz11_0
    try clear hcz11_1
    try clear hcz11_2
    try clear hcz11_3
    try clear hcz11_4
    try clear hcz16_0
    try clear hcz16_1
    try clear hcz16_2
    try clear hcz16_3
    try clear hcz16_4
    try clear hcz17_0
    try clear hcz17_1
    try clear hcz17_2
    try clear hcz17_3
    try clear hcz17_4
    try clear hfz11_0
    try clear hfz16_0
    try clear hfz17_0
    obtain ⟨kq, x72_7, rfl, HA, HJ7, BK452, BK461, HB⟩ := hcut
    cases kq with
    | zero => exact absurd HA.out (by simp [laws_FnTripLists.j0])
    | succ kj7 =>
     have H := HA.out
     clear HA
     simp only [laws_FnTripLists.j0] at H
     rcases Bool.eq_false_or_eq_true x72_7 with rfl | rfl
     ·replace H := iT rfl H
      exact absurd (Option.some.inj H) (by rw [hT]; decide)
     ·replace H := iF (by decide) H
      replace H := bA H
      obtain ⟨t464, A27, H⟩ := H
      replace H := Option.bind_eq_some_iff.mp H
      obtain ⟨⟨t465, t466, t467, t468, t469, t470⟩, A280, H⟩ := H
      replace H : ((impl_TripText.f kj7 t465 t466 t467 t468 t469).bind fun bt472 => ((spec_ParseTrip.f kj7 t464).bind fun bt474 => (if (!(t465 == bt474.1) || (!(t466 == bt474.2.1) || (!(t467 == bt474.2.2.1) || (!(t468 == bt474.2.2.2.1) || (!(t469 == bt474.2.2.2.2.1)))))) = true then (laws_FnTripLists.j1 kj7 l0 true) else (if (t470 != bt474.2.2.2.2.2) = true then (laws_FnTripLists.j1 kj7 l0 true) else (if t470 = true then (if bt472.2 = true then (laws_FnTripLists.j1 kj7 l0 (bt472.1.toList != t464.toList)) else (laws_FnTripLists.j1 kj7 l0 true)) else (laws_FnTripLists.j1 kj7 l0 false)))))) = some r := H
      have A28 := Aside0.mk A280
      clear A280
      replace H := Option.bind_eq_some_iff.mp H
      obtain ⟨⟨t472, t473⟩, A290, H⟩ := H
      replace H : ((spec_ParseTrip.f kj7 t464).bind fun bt474 => (if (!(t465 == bt474.1) || (!(t466 == bt474.2.1) || (!(t467 == bt474.2.2.1) || (!(t468 == bt474.2.2.2.1) || (!(t469 == bt474.2.2.2.2.1)))))) = true then (laws_FnTripLists.j1 kj7 l0 true) else (if (t470 != bt474.2.2.2.2.2) = true then (laws_FnTripLists.j1 kj7 l0 true) else (if t470 = true then (if t473 = true then (laws_FnTripLists.j1 kj7 l0 (t472.toList != t464.toList)) else (laws_FnTripLists.j1 kj7 l0 true)) else (laws_FnTripLists.j1 kj7 l0 false))))) = some r := H
      have A29 := Aside0.mk A290
      clear A290
      replace H := Option.bind_eq_some_iff.mp H
      obtain ⟨⟨t474, t475, t476, t477, t478, t479⟩, A300, H⟩ := H
      replace H : (if (!(t465 == t474) || (!(t466 == t475) || (!(t467 == t476) || (!(t468 == t477) || (!(t469 == t478)))))) = true then (laws_FnTripLists.j1 kj7 l0 true) else (if (t470 != t479) = true then (laws_FnTripLists.j1 kj7 l0 true) else (if t470 = true then (if t473 = true then (laws_FnTripLists.j1 kj7 l0 (t472.toList != t464.toList)) else (laws_FnTripLists.j1 kj7 l0 true)) else (laws_FnTripLists.j1 kj7 l0 false)))) = some r := H
      have A30 := Aside0.mk A300
      clear A300
      have HC31 := Aside0.mk H
      clear H
      go_upto_region 13 with (first | ((with_reducible refine gC 9 ?_); refine lA (some 74) Tryz.func9 (spec_DrawParseTrip.calls kj7 _ _ l0 t464 _ ?side1 ?side2 A27.out) ?_; (case side1 => repeat (first | exact (Kd.C_below HR0.out HB.out) | (with_reducible refine Kd.C_alloc ?_ _) | (with_reducible refine Kd.C_drewN ?_ _) | (with_reducible refine Kd.C_drew ?_))); (case side2 => exact HC0.out); intro w32 hb; replace BK452 := uK BK452 hb; replace BK461 := uK BK461 hb; replace HB := uB HB hb; (try clear hb); (try clear hk)) | ((with_reducible refine gC 7 ?_); refine lA (some 77) Tryz.func7 (impl_ParseTrip.calls kj7 t464 t465 t466 t467 t468 t469 t470 _ A28.out (TabW.up2 hTW HB.out)) ?_; intro w33 hb; replace BK452 := uK BK452 hb; replace BK461 := uK BK461 hb; replace HB := uB HB hb; (try clear hb); (try clear hk)) | ((with_reducible refine gD 11 ?_); (try (refine gate_guard (by rfl) ?_; dsimp only)); refine bxE 11 25 #[.int .i64 0, .int .i64 0, .int .i64 0, .int .i64 0, .int .i64 0] fun gb471 w34 hg hbox hb => ?_; have BK471 := Aside0.mk hbox; have GE471 := gB HB hg; have ⟨NB452_471, NB471_452⟩ := nB BK452 hg; have ⟨NB461_471, NB471_461⟩ := nB BK461 hg; replace BK452 := uK BK452 hb; replace BK461 := uK BK461 hb; replace HB := uB HB hb; clear hb hbox hg; have hnb35 := NB471_452.out; have hnc35 := NB452_471.out; have hnb36 := NB471_461.out; have hnc36 := NB461_471.out; have ⟨hcz37_0, hcz37_1, hcz37_2, hcz37_3, hcz37_4, hfz37_0⟩ := cz5 BK471) | ((with_reducible refine gC 6 ?_); refine lA (some 82) Tryz.func6 (impl_TripText.calls kj7 t465 t466 t467 t468 t469 t472 t473 _ A29.out (TabW.up2 hTW HB.out)) ?_; intro w38 hb; replace BK452 := uQ BK452 hb #[.int .i64 t447, .int .i64 t448, .int .i64 t449, .int .i64 t450, .int .i64 t451]; replace BK461 := uQ BK461 hb #[.int .i64 t455, .int .i64 t456, .int .i64 t457, .int .i64 t458, .int .i64 t459]; replace BK471 := uQ BK471 hb #[.int .i64 t465, .int .i64 t466, .int .i64 t467, .int .i64 t468, .int .i64 t469]; replace HB := uB HB hb; (try clear hb); (try clear hk)) | ((with_reducible refine gC 10 ?_); refine lA (some 87) Tryz.func10 (spec_ParseTrip.calls kj7 t464 t474 t475 t476 t477 t478 t479 _ A30.out) ?_; intro w39 hb; replace BK452 := uK BK452 hb; replace BK461 := uK BK461 hb; replace BK471 := uK BK471 hb; replace HB := uB HB hb; (try clear hb); (try clear hk)) | ((with_reducible refine gD 15 ?_); (try (refine gate_guard (by rfl) ?_; dsimp only)); refine bxE 15 25 #[.int .i64 0, .int .i64 0, .int .i64 0, .int .i64 0, .int .i64 0] fun gb480 w40 hg hbox hb => ?_; have BK480 := Aside0.mk hbox; have GE480 := gB HB hg; have ⟨NB452_480, NB480_452⟩ := nB BK452 hg; have ⟨NB461_480, NB480_461⟩ := nB BK461 hg; have ⟨NB471_480, NB480_471⟩ := nB BK471 hg; replace BK452 := uK BK452 hb; replace BK461 := uK BK461 hb; replace BK471 := uK BK471 hb; replace HB := uB HB hb; clear hb hbox hg; have hnb41 := NB480_452.out; have hnc41 := NB452_480.out; have hnb42 := NB480_461.out; have hnc42 := NB461_480.out; have hnb43 := NB480_471.out; have hnc43 := NB471_480.out; have ⟨hcz44_0, hcz44_1, hcz44_2, hcz44_3, hcz44_4, hfz44_0⟩ := cz5 BK480))
      (try simp only [Act.put, List.setIfInBounds_toArray, List.set_cons_zero, List.set_cons_succ])
      go_cut [109] (fun v109 wc => ∃ (kq : Nat) (x109_30 : Bool), v109 = .bool x109_30 ∧ Aside0 (laws_FnTripLists.j1 kq l0 x109_30 = some r) ∧ Aside0 (kq ≤ kj7) ∧ Aside0 (wc.heap[gb452]? = some (.cells #[.int .i64 t447, .int .i64 t448, .int .i64 t449, .int .i64 t450, .int .i64 t451] 25 (0, 0))) ∧ Aside0 (wc.heap[gb461]? = some (.cells #[.int .i64 t455, .int .i64 t456, .int .i64 t457, .int .i64 t458, .int .i64 t459] 25 (0, 0))) ∧ Aside0 (wc.heap[gb471]? = some (.cells #[.int .i64 t465, .int .i64 t466, .int .i64 t467, .int .i64 t468, .int .i64 t469] 25 (0, 0))) ∧ Aside0 (wc.heap[gb480]? = some (.cells #[.int .i64 t474, .int .i64 t475, .int .i64 t476, .int .i64 t477, .int .i64 t478] 25 (0, 0))) ∧ Aside0 (Below w.heap.size w wc))
      case first =>
       have H := HC31.out
       clear HC31
       by_cases c45 : (!(t465 == t474) || (!(t466 == t475) || (!(t467 == t476) || (!(t468 == t477) || (!(t469 == t478)))))) = true
       ·rw [if_pos c45] at H
        have c45b0 : (!(t465 == t474) || (!(t466 == t475) || (!(t467 == t476) || (!(t468 == t477) || (!(t469 == t478)))))) = true := c45
        clear c45
        (first | rw [c45b0] | (simp only [i64_w, i32_w]; rw [c45b0]) | skip)
        have H' := Aside0.mk H
        clear H
        have hnb46 := NB471_452.out
        have hnc46 := NB452_471.out
        have hnb47 := NB471_461.out
        have hnc47 := NB461_471.out
        have hnb48 := NB471_480.out
        have hnc48 := NB480_471.out
        have ⟨hcz49_0, hcz49_1, hcz49_2, hcz49_3, hcz49_4, hfz49_0⟩ := cz5 BK471
        have hnb50 := NB480_452.out
        have hnc50 := NB452_480.out
        have hnb51 := NB480_461.out
        have hnc51 := NB461_480.out
        have ⟨hcz52_0, hcz52_1, hcz52_2, hcz52_3, hcz52_4, hfz52_0⟩ := cz5 BK480
        go_wp2
        go_meet
        case rel => exact ⟨_, (true), rB, H', ⟨by have := HJ7.out; first | omega | exact Nat.le_refl _⟩, ⟨by exact pW BK452⟩, ⟨by exact pW BK461⟩, ⟨by exact pW BK471⟩, ⟨by exact pW BK480⟩, (aB HB)⟩
       ·rw [if_neg c45] at H
        have c45b0 : (!(t465 == t474) || (!(t466 == t475) || (!(t467 == t476) || (!(t468 == t477) || (!(t469 == t478)))))) = false := by simpa using c45
        clear c45
        (first | rw [c45b0] | (simp only [i64_w, i32_w]; rw [c45b0]) | skip)
        by_cases c53 : (t470 != t479) = true
        ·rw [if_pos c53] at H
         have c53b0 : (t470 != t479) = true := c53
         (try (have c53b1 : decide (t470 = t479) = false := by simpa using c53))
         (try (have c53b2 : (t470 == t479) = false := by simpa using c53))
         (try (have c53b3 : ¬ (t470 = t479) := by simpa using c53))
         clear c53
         have H' := Aside0.mk H
         clear H
         have hnb54 := NB471_452.out
         have hnc54 := NB452_471.out
         have hnb55 := NB471_461.out
         have hnc55 := NB461_471.out
         have hnb56 := NB471_480.out
         have hnc56 := NB480_471.out
         have ⟨hcz57_0, hcz57_1, hcz57_2, hcz57_3, hcz57_4, hfz57_0⟩ := cz5 BK471
         have hnb58 := NB480_452.out
         have hnc58 := NB452_480.out
         have hnb59 := NB480_461.out
         have hnc59 := NB461_480.out
         have ⟨hcz60_0, hcz60_1, hcz60_2, hcz60_3, hcz60_4, hfz60_0⟩ := cz5 BK480
         go_wp2
         go_meet
         case rel => exact ⟨_, (true), rB, H', ⟨by have := HJ7.out; first | omega | exact Nat.le_refl _⟩, ⟨by exact pW BK452⟩, ⟨by exact pW BK461⟩, ⟨by exact pW BK471⟩, ⟨by exact pW BK480⟩, (aB HB)⟩
        ·rw [if_neg c53] at H
         have c53b0 : (t470 != t479) = false := by simpa using c53
         (try (have c53b1 : decide (t470 = t479) = true := by simpa using c53))
         (try (have c53b2 : (t470 == t479) = true := by simpa using c53))
         clear c53
         rcases Bool.eq_false_or_eq_true t470 with rfl | rfl
         ·replace H := iT rfl H
          rcases Bool.eq_false_or_eq_true t473 with rfl | rfl
          ·replace H := iT rfl H
           have H' := Aside0.mk H
           clear H
           have hnb63 := NB471_452.out
           have hnc63 := NB452_471.out
           have hnb64 := NB471_461.out
           have hnc64 := NB461_471.out
           have hnb65 := NB471_480.out
           have hnc65 := NB480_471.out
           have ⟨hcz66_0, hcz66_1, hcz66_2, hcz66_3, hcz66_4, hfz66_0⟩ := cz5 BK471
           have hnb67 := NB480_452.out
           have hnc67 := NB452_480.out
           have hnb68 := NB480_461.out
           have hnc68 := NB461_480.out
           have ⟨hcz69_0, hcz69_1, hcz69_2, hcz69_3, hcz69_4, hfz69_0⟩ := cz5 BK480
           go_wp2
           go_meet
           case rel => exact ⟨_, ((t472.toList != t464.toList)), rB, H', ⟨by have := HJ7.out; first | omega | exact Nat.le_refl _⟩, ⟨by exact pW BK452⟩, ⟨by exact pW BK461⟩, ⟨by exact pW BK471⟩, ⟨by exact pW BK480⟩, (aB HB)⟩
          ·replace H := iF (by decide) H
           have H' := Aside0.mk H
           clear H
           have hnb70 := NB471_452.out
           have hnc70 := NB452_471.out
           have hnb71 := NB471_461.out
           have hnc71 := NB461_471.out
           have hnb72 := NB471_480.out
           have hnc72 := NB480_471.out
           have ⟨hcz73_0, hcz73_1, hcz73_2, hcz73_3, hcz73_4, hfz73_0⟩ := cz5 BK471
           have hnb74 := NB480_452.out
           have hnc74 := NB452_480.out
           have hnb75 := NB480_461.out
           have hnc75 := NB461_480.out
           have ⟨hcz76_0, hcz76_1, hcz76_2, hcz76_3, hcz76_4, hfz76_0⟩ := cz5 BK480
           go_wp2
           go_meet
           case rel => exact ⟨_, (true), rB, H', ⟨by have := HJ7.out; first | omega | exact Nat.le_refl _⟩, ⟨by exact pW BK452⟩, ⟨by exact pW BK461⟩, ⟨by exact pW BK471⟩, ⟨by exact pW BK480⟩, (aB HB)⟩
         ·replace H := iF (by decide) H
          have H' := Aside0.mk H
          clear H
          have hnb77 := NB471_452.out
          have hnc77 := NB452_471.out
          have hnb78 := NB471_461.out
          have hnc78 := NB461_471.out
          have hnb79 := NB471_480.out
          have hnc79 := NB480_471.out
          have ⟨hcz80_0, hcz80_1, hcz80_2, hcz80_3, hcz80_4, hfz80_0⟩ := cz5 BK471
          have hnb81 := NB480_452.out
          have hnc81 := NB452_480.out
          have hnb82 := NB480_461.out
          have hnc82 := NB461_480.out
          have ⟨hcz83_0, hcz83_1, hcz83_2, hcz83_3, hcz83_4, hfz83_0⟩ := cz5 BK480
          go_wp2
          go_meet
          case rel => exact ⟨_, (false), rB, H', ⟨by have := HJ7.out; first | omega | exact Nat.le_refl _⟩, ⟨by exact pW BK452⟩, ⟨by exact pW BK461⟩, ⟨by exact pW BK471⟩, ⟨by exact pW BK480⟩, (aB HB)⟩
      case rest =>
       apply Classical.byContradiction
       intro hn_
       letI h_ : (0 : Nat) = 1 := (hn_ (by
        clear hn_
        clear HC31
        try clear hcz11_0
        try clear hcz11_1
        try clear hcz11_2
        try clear hcz11_3
        try clear hcz11_4
        try clear hcz16_0
        try clear hcz16_1
        try clear hcz16_2
        try clear hcz16_3
        try clear hcz16_4
        try clear hcz17_0
        try clear hcz17_1
        try clear hcz17_2
        try clear hcz17_3
        try clear hcz17_4
        try clear hcz37_0
        try clear hcz37_1
        try clear hcz37_2
        try clear hcz37_3
        try clear hcz37_4
        try clear hcz44_0
        try clear hcz44_1
        try clear hcz44_2
        try clear hcz44_3
        try clear hcz44_4
        try clear hfz11_0
        try clear hfz16_0
        try clear hfz17_0
        try clear hfz37_0
        try clear hfz44_0
        obtain ⟨kq, x109_30, rfl, HA, HJ30, BK452, BK461, BK471, BK480, HB⟩ := hcut
        cases kq with
        | zero => exact absurd HA.out (by simp [laws_FnTripLists.j1])
        | succ kj30 =>
         have H := HA.out
         clear HA
         simp only [laws_FnTripLists.j1] at H
         rcases Bool.eq_false_or_eq_true x109_30 with rfl | rfl
         ·replace H := iT rfl H
          exact absurd (Option.some.inj H) (by rw [hT]; decide)
         ·replace H := iF (by decide) H
          replace H := Option.bind_eq_some_iff.mp H
          obtain ⟨⟨t481, t482⟩, A850, H⟩ := H
          replace H : ((impl_OverdueTrips.f kj30 t481 t482).bind fun bt485 => ((spec_OverdueTrips.f kj30 t481 t482).bind fun bt489 => (if (bt485.2 != bt489.2) = true then (laws_FnTripLists.j2 kj30 l0 t481 t482 bt485.1 bt485.2 true) else ((laws_vInts.f kj30 bt485.1 bt489.1).bind fun t493 => (laws_FnTripLists.j2 kj30 l0 t481 t482 bt485.1 bt485.2 (!t493)))))) = some r := H
          have A85 := Aside0.mk A850
          clear A850
          replace H := Option.bind_eq_some_iff.mp H
          obtain ⟨⟨t485, t486⟩, A860, H⟩ := H
          replace H : ((spec_OverdueTrips.f kj30 t481 t482).bind fun bt489 => (if (t486 != bt489.2) = true then (laws_FnTripLists.j2 kj30 l0 t481 t482 t485 t486 true) else ((laws_vInts.f kj30 t485 bt489.1).bind fun t493 => (laws_FnTripLists.j2 kj30 l0 t481 t482 t485 t486 (!t493))))) = some r := H
          have A86 := Aside0.mk A860
          clear A860
          replace H := Option.bind_eq_some_iff.mp H
          obtain ⟨⟨t489, t490⟩, A870, H⟩ := H
          replace H : (if (t486 != t490) = true then (laws_FnTripLists.j2 kj30 l0 t481 t482 t485 t486 true) else ((laws_vInts.f kj30 t485 t489).bind fun t493 => (laws_FnTripLists.j2 kj30 l0 t481 t482 t485 t486 (!t493)))) = some r := H
          have A87 := Aside0.mk A870
          clear A870
          have HC88 := Aside0.mk H
          clear H
          go_upto_region 18 with (first | ((with_reducible refine gate_callee (f := 11) rfl ?_); refine goesL_ (some 112) rfl rfl Tryz.func11 (by kernel_rfl) rfl #[.slice A0 l0.length c0] rfl argsB ?_; (with_reducible refine (spec_DrawOverdueTrips.calls kj30 _ _ l0 t481 t482 _ ?side1 ?side2 A85.out).mono ?_); (case side1 => repeat (first | exact (Kd.C_below HR0.out HB.out) | (with_reducible refine Kd.C_alloc ?_ _) | (with_reducible refine Kd.C_drewN ?_ _) | (with_reducible refine Kd.C_drew ?_))); (case side2 => exact HC0.out); rintro e w89 ⟨v483, rfl, ho0, hb⟩; refine ⟨_, rfl, ?_⟩; have HO484 := Aside0.mk (Kd.R_lower (Kd.R_newB (Kd.R_newB (Kd.R_newB (Kd.R_newB ho0 (g := gb452) (o := .cells #[.int .i64 t447, .int .i64 t448, .int .i64 t449, .int .i64 t450, .int .i64 t451] 25 (0, 0)) (upK BK452.out)) (g := gb461) (o := .cells #[.int .i64 t455, .int .i64 t456, .int .i64 t457, .int .i64 t458, .int .i64 t459] 25 (0, 0)) (upK BK461.out)) (g := gb471) (o := .cells #[.int .i64 t465, .int .i64 t466, .int .i64 t467, .int .i64 t468, .int .i64 t469] 25 (0, 0)) (upK BK471.out)) (g := gb480) (o := .cells #[.int .i64 t474, .int .i64 t475, .int .i64 t476, .int .i64 t477, .int .i64 t478] 25 (0, 0)) (upK BK480.out)) (below_size (bW HB))); replace BK452 := uK BK452 hb; replace BK461 := uK BK461 hb; replace BK471 := uK BK471 hb; replace BK480 := uK BK480 hb; replace HB := uB HB hb; (try clear hb); (try clear hk); (try clear ho0); obtain ⟨Ao90, co90, eo90⟩ := Kd.R_slice HO484.out; subst eo90) | ((with_reducible refine gate_callee (f := 12) rfl ?_); refine goesL_ (some 118) rfl rfl Tryz.func12 (by kernel_rfl) rfl #[.slice Ao90 t481.length co90, .int .i64 t482] rfl argsB ?_; (with_reducible refine (impl_OverdueTrips.calls kj30 _ _ t481 t482 t485 t486 _ ?side1 ?side2 A86.out).mono ?_); (case side1 => repeat (first | exact (Kd.R_reads' HO484.out).2.2 | (with_reducible refine Kd.C_alloc ?_ _) | (with_reducible refine Kd.C_drewN ?_ _) | (with_reducible refine Kd.C_drew ?_))); (case side2 => exact (Kd.R_reads' HO484.out).2.1); rintro e w91 ⟨v487, rfl, ho0, hb⟩; refine ⟨_, rfl, ?_⟩; have HO488 := Aside0.mk (Kd.R_lower ho0 (below_size (bW HB))); replace HO484 := uR HO484 hb; replace BK452 := uK BK452 hb; replace BK461 := uK BK461 hb; replace BK471 := uK BK471 hb; replace BK480 := uK BK480 hb; replace HB := uB HB hb; (try clear hb); (try clear hk); (try clear ho0)) | ((with_reducible refine gate_callee (f := 13) rfl ?_); refine goesL_ (some 124) rfl rfl Tryz.func13 (by kernel_rfl) rfl #[.slice Ao90 t481.length co90, .int .i64 t482] rfl argsB ?_; (with_reducible refine (spec_OverdueTrips.calls kj30 _ _ t481 t482 t489 t490 _ ?side1 ?side2 A87.out).mono ?_); (case side1 => repeat (first | exact (Kd.R_reads' HO484.out).2.2 | (with_reducible refine Kd.C_alloc ?_ _) | (with_reducible refine Kd.C_drewN ?_ _) | (with_reducible refine Kd.C_drew ?_))); (case side2 => exact (Kd.R_reads' HO484.out).2.1); rintro e w92 ⟨v491, rfl, ho0, hb⟩; refine ⟨_, rfl, ?_⟩; have HO492 := Aside0.mk (Kd.R_lower (Kd.R_new' ho0 (Kd.R_lt (upR HO488.out))) (below_size (bW HB))); replace HO484 := uR HO484 hb; replace HO488 := Aside0.mk (Kd.R_elder' (upR HO488.out) (Kd.R_base ho0) hb); replace BK452 := uK BK452 hb; replace BK461 := uK BK461 hb; replace BK471 := uK BK471 hb; replace BK480 := uK BK480 hb; replace HB := uB HB hb; (try clear hb); (try clear hk); (try clear ho0)))
          (try simp only [Act.put, List.setIfInBounds_toArray, List.set_cons_zero, List.set_cons_succ])
          go_cut [135] (fun v135 wc => ∃ (kq : Nat) (x135_87 : Bool), v135 = .bool x135_87 ∧ Aside0 (laws_FnTripLists.j2 kq l0 t481 t482 t485 t486 x135_87 = some r) ∧ Aside0 (kq ≤ kj30) ∧ Aside0 (Kd.R k25 25 wc w.heap.size (fun k_ => k_ ≠ gb452 ∧ k_ ≠ gb461 ∧ k_ ≠ gb471 ∧ k_ ≠ gb480) (.slice Ao90 t481.length co90) t481) ∧ Aside0 (Kd.R (Kd.int .i64) 3 wc w.heap.size (fun _ => True) v487 t485) ∧ Aside0 (wc.heap[gb452]? = some (.cells #[.int .i64 t447, .int .i64 t448, .int .i64 t449, .int .i64 t450, .int .i64 t451] 25 (0, 0))) ∧ Aside0 (wc.heap[gb461]? = some (.cells #[.int .i64 t455, .int .i64 t456, .int .i64 t457, .int .i64 t458, .int .i64 t459] 25 (0, 0))) ∧ Aside0 (wc.heap[gb471]? = some (.cells #[.int .i64 t465, .int .i64 t466, .int .i64 t467, .int .i64 t468, .int .i64 t469] 25 (0, 0))) ∧ Aside0 (wc.heap[gb480]? = some (.cells #[.int .i64 t474, .int .i64 t475, .int .i64 t476, .int .i64 t477, .int .i64 t478] 25 (0, 0))) ∧ Aside0 (Below w.heap.size w wc))
          case first =>
           have H := HC88.out
           clear HC88
           by_cases c93 : (t486 != t490) = true
           ·rw [if_pos c93] at H
            have c93b0 : (t486 != t490) = true := c93
            (try (have c93b1 : decide (t486 = t490) = false := by simpa using c93))
            (try (have c93b2 : (t486 == t490) = false := by simpa using c93))
            (try (have c93b3 : ¬ (t486 = t490) := by simpa using c93))
            clear c93
            (first | rw [c93b0] | (simp only [i64_w, i32_w]; rw [c93b0]) | skip)
            have H' := Aside0.mk H
            clear H
            go_wp2
            go_meet
            case rel => exact ⟨_, (true), rB, H', ⟨by have := HJ7.out; have := HJ30.out; first | omega | exact Nat.le_refl _⟩, ⟨by (with_reducible repeat (first | apply Kd.R_alloc | apply Kd.R_drewN | apply Kd.R_drew)); exact Kd.R_mono HO484.out (fun _ hk => ⟨hk.1.1.1.2, ⟨hk.1.1.2, ⟨hk.1.2, hk.2⟩⟩⟩)⟩, ⟨by (with_reducible repeat (first | apply Kd.R_alloc | apply Kd.R_drewN | apply Kd.R_drew)); exact Kd.R_mono HO488.out (fun _ hk => trivial)⟩, (aK BK452), (aK BK461), (aK BK471), (aK BK480), (aB HB)⟩
           ·rw [if_neg c93] at H
            have c93b0 : (t486 != t490) = false := by simpa using c93
            (try (have c93b1 : decide (t486 = t490) = true := by simpa using c93))
            (try (have c93b2 : (t486 == t490) = true := by simpa using c93))
            clear c93
            (first | rw [c93b0] | (simp only [i64_w, i32_w]; rw [c93b0]) | skip)
            replace H := bA H
            obtain ⟨t493, A94, H⟩ := H
            have H' := Aside0.mk H
            clear H
            obtain ⟨Ao95, co95, eo95⟩ := Kd.R_slice HO488.out
            subst eo95
            obtain ⟨Ao96, co96, eo96⟩ := Kd.R_slice HO492.out
            subst eo96
            go_wp2_with (first | (go_at_call 14; (with_reducible refine (laws_vInts.calls kj30 _ _ t485 _ _ t489 t493 _ ?side1 ?side2 ?side3 ?side4 A94.out).mono ?_); (case side1 => repeat (first | exact (Kd.R_reads' HO488.out).2.2 | (with_reducible refine Kd.C_alloc ?_ _) | (with_reducible refine Kd.C_drewN ?_ _) | (with_reducible refine Kd.C_drew ?_))); (case side2 => exact (Kd.R_reads' HO488.out).2.1); (case side3 => repeat (first | exact (Kd.R_reads' HO492.out).2.2 | (with_reducible refine Kd.C_alloc ?_ _) | (with_reducible refine Kd.C_drewN ?_ _) | (with_reducible refine Kd.C_drew ?_))); (case side4 => exact (Kd.R_reads' HO492.out).2.1); rintro e w' ⟨rfl, ⟨nd, rfl⟩⟩))
            go_meet
            case rel => exact ⟨_, (!t493), rB, H', ⟨by have := HJ7.out; have := HJ30.out; first | omega | exact Nat.le_refl _⟩, ⟨by (with_reducible repeat (first | apply Kd.R_alloc | apply Kd.R_drewN | apply Kd.R_drew)); exact Kd.R_mono HO484.out (fun _ hk => ⟨hk.1.1.1.2, ⟨hk.1.1.2, ⟨hk.1.2, hk.2⟩⟩⟩)⟩, ⟨by (with_reducible repeat (first | apply Kd.R_alloc | apply Kd.R_drewN | apply Kd.R_drew)); exact Kd.R_mono HO488.out (fun _ hk => trivial)⟩, (aK BK452), (aK BK461), (aK BK471), (aK BK480), (aB HB)⟩
          case rest =>
           apply Classical.byContradiction
           intro hn_
           letI h_ : (0 : Nat) = 1 := (hn_ (by
            clear hn_
            clear HC88
            try clear hcz11_0
            try clear hcz11_1
            try clear hcz11_2
            try clear hcz11_3
            try clear hcz11_4
            try clear hcz16_0
            try clear hcz16_1
            try clear hcz16_2
            try clear hcz16_3
            try clear hcz16_4
            try clear hcz17_0
            try clear hcz17_1
            try clear hcz17_2
            try clear hcz17_3
            try clear hcz17_4
            try clear hcz37_0
            try clear hcz37_1
            try clear hcz37_2
            try clear hcz37_3
            try clear hcz37_4
            try clear hcz44_0
            try clear hcz44_1
            try clear hcz44_2
            try clear hcz44_3
            try clear hcz44_4
            try clear hfz11_0
            try clear hfz16_0
            try clear hfz17_0
            try clear hfz37_0
            try clear hfz44_0
            obtain ⟨kq, x135_87, rfl, HA, HJ87, HO_17, HO_19, BK452, BK461, BK471, BK480, HB⟩ := hcut
            cases kq with
            | zero => exact absurd HA.out (by simp [laws_FnTripLists.j2])
            | succ kj87 =>
             have H := HA.out
             clear HA
             simp only [laws_FnTripLists.j2] at H
             rcases Bool.eq_false_or_eq_true x135_87 with rfl | rfl
             ·replace H := iT rfl H
              exact absurd (Option.some.inj H) (by rw [hT]; decide)
             ·replace H := iF (by decide) H
              have HC98 := Aside0.mk H
              clear H
              go_upto_region 20 with (fail)
              go_cut [140] (fun v140 wc => ∃ (kq : Nat) (x140_97 : Bool), v140 = .bool x140_97 ∧ Aside0 (laws_FnTripLists.j3 kq l0 t481 t482 t485 x140_97 = some r) ∧ Aside0 (kq ≤ kj87) ∧ Aside0 (Kd.R k25 25 wc w.heap.size (fun k_ => k_ ≠ gb452 ∧ k_ ≠ gb461 ∧ k_ ≠ gb471 ∧ k_ ≠ gb480) (.slice Ao90 t481.length co90) t481) ∧ Aside0 (Kd.R (Kd.int .i64) 3 wc w.heap.size (fun _ => True) v487 t485) ∧ Aside0 (wc.heap[gb452]? = some (.cells #[.int .i64 t447, .int .i64 t448, .int .i64 t449, .int .i64 t450, .int .i64 t451] 25 (0, 0))) ∧ Aside0 (wc.heap[gb461]? = some (.cells #[.int .i64 t455, .int .i64 t456, .int .i64 t457, .int .i64 t458, .int .i64 t459] 25 (0, 0))) ∧ Aside0 (wc.heap[gb471]? = some (.cells #[.int .i64 t465, .int .i64 t466, .int .i64 t467, .int .i64 t468, .int .i64 t469] 25 (0, 0))) ∧ Aside0 (wc.heap[gb480]? = some (.cells #[.int .i64 t474, .int .i64 t475, .int .i64 t476, .int .i64 t477, .int .i64 t478] 25 (0, 0))) ∧ Aside0 (Below w.heap.size w wc))
              case first =>
               have H := HC98.out
               clear HC98
               rcases Bool.eq_false_or_eq_true t486 with rfl | rfl
               ·replace H := iT rfl H
                have H' := Aside0.mk H
                clear H
                go_wp2
                go_meet
                case rel => exact ⟨_, (decide (t482 < 999)), rB, H', ⟨by have := HJ7.out; have := HJ30.out; have := HJ87.out; first | omega | exact Nat.le_refl _⟩, ⟨upR HO_17.out⟩, ⟨upR HO_19.out⟩, (aK BK452), (aK BK461), (aK BK471), (aK BK480), (aB HB)⟩
               ·replace H := iF (by decide) H
                have H' := Aside0.mk H
                clear H
                go_wp2
                go_meet
                case rel => exact ⟨_, (false), rB, H', ⟨by have := HJ7.out; have := HJ30.out; have := HJ87.out; first | omega | exact Nat.le_refl _⟩, ⟨upR HO_17.out⟩, ⟨upR HO_19.out⟩, (aK BK452), (aK BK461), (aK BK471), (aK BK480), (aB HB)⟩
              case rest =>
               apply Classical.byContradiction
               intro hn_
               letI h_ : (0 : Nat) = 1 := (hn_ (by
                clear hn_
                clear HC98
                try clear hcz11_0
                try clear hcz11_1
                try clear hcz11_2
                try clear hcz11_3
                try clear hcz11_4
                try clear hcz16_0
                try clear hcz16_1
                try clear hcz16_2
                try clear hcz16_3
                try clear hcz16_4
                try clear hcz17_0
                try clear hcz17_1
                try clear hcz17_2
                try clear hcz17_3
                try clear hcz17_4
                try clear hcz37_0
                try clear hcz37_1
                try clear hcz37_2
                try clear hcz37_3
                try clear hcz37_4
                try clear hcz44_0
                try clear hcz44_1
                try clear hcz44_2
                try clear hcz44_3
                try clear hcz44_4
                try clear hfz11_0
                try clear hfz16_0
                try clear hfz17_0
                try clear hfz37_0
                try clear hfz44_0
                obtain ⟨kq, x140_97, rfl, HA, HJ97, HO_17, HO_19, BK452, BK461, BK471, BK480, HB⟩ := hcut
                cases kq with
                | zero => exact absurd HA.out (by simp [laws_FnTripLists.j3])
                | succ kj97 =>
                 have H := HA.out
                 clear HA
                 simp only [laws_FnTripLists.j3] at H
                 have HC100 := Aside0.mk H
                 clear H
                 go_upto_if 140 with (fail)
                 go_cut [] (fun wc => ∃ (kq : Nat), Aside0 (laws_FnTripLists.j4 kq l0 = some r) ∧ Aside0 (kq ≤ kj97) ∧ Aside0 (wc.heap[gb452]? = some (.cells #[.int .i64 t447, .int .i64 t448, .int .i64 t449, .int .i64 t450, .int .i64 t451] 25 (0, 0))) ∧ Aside0 (wc.heap[gb461]? = some (.cells #[.int .i64 t455, .int .i64 t456, .int .i64 t457, .int .i64 t458, .int .i64 t459] 25 (0, 0))) ∧ Aside0 (wc.heap[gb471]? = some (.cells #[.int .i64 t465, .int .i64 t466, .int .i64 t467, .int .i64 t468, .int .i64 t469] 25 (0, 0))) ∧ Aside0 (wc.heap[gb480]? = some (.cells #[.int .i64 t474, .int .i64 t475, .int .i64 t476, .int .i64 t477, .int .i64 t478] 25 (0, 0))) ∧ Aside0 (Below w.heap.size w wc))
                 case first =>
                  have H := HC100.out
                  clear HC100
                  rcases Bool.eq_false_or_eq_true x140_97 with rfl | rfl
                  ·replace H := iT rfl H
                   replace H := Option.bind_eq_some_iff.mp H
                   obtain ⟨⟨t494, t495⟩, A1020, H⟩ := H
                   replace H : (if t495 = true then ((laws_vWithin.f kj97 t485 t494).bind fun t498 => (if t498 = true then (laws_FnTripLists.j4 kj97 l0) else (some false))) else (some false)) = some r := H
                   have A102 := Aside0.mk A1020
                   clear A1020
                   rcases Bool.eq_false_or_eq_true t495 with rfl | rfl
                   ·replace H := iT rfl H
                    replace H := bA H
                    obtain ⟨t498, A104, H⟩ := H
                    rcases Bool.eq_false_or_eq_true t498 with rfl | rfl
                    ·replace H := iT rfl H
                     have H' := Aside0.mk H
                     clear H
                     go_wp2_with (first | ((with_reducible refine gate_callee (f := 12) rfl ?_); refine goesL_ (some 145) rfl rfl Tryz.func12 (by kernel_rfl) rfl #[.slice Ao90 t481.length co90, .int .i64 (wrap64 (t482 + 1))] rfl argsB ?_; (with_reducible refine (impl_OverdueTrips.calls kj97 _ _ t481 (wrap64 (t482 + 1)) t494 true _ ?side1 ?side2 A102.out).mono ?_); (case side1 => repeat (first | exact (Kd.R_reads' HO_17.out).2.2 | (with_reducible refine Kd.C_alloc ?_ _) | (with_reducible refine Kd.C_drewN ?_ _) | (with_reducible refine Kd.C_drew ?_))); (case side2 => exact (Kd.R_reads' HO_17.out).2.1); rintro e w106 ⟨v496, rfl, ho0, hb⟩; refine ⟨_, rfl, ?_⟩; have HO497 := Aside0.mk (Kd.R_lower (Kd.R_new' ho0 (Kd.R_lt (upR HO_19.out))) (below_size (bW HB))); replace HO_17 := uR HO_17 hb; replace HO_19 := Aside0.mk (Kd.R_elder' (upR HO_19.out) (Kd.R_base ho0) hb); replace BK452 := uK BK452 hb; replace BK461 := uK BK461 hb; replace BK471 := uK BK471 hb; replace BK480 := uK BK480 hb; replace HB := uB HB hb; (try clear hb); (try clear hk); (try clear ho0); obtain ⟨Ao107, co107, eo107⟩ := Kd.R_slice HO_19.out; subst eo107; obtain ⟨Ao108, co108, eo108⟩ := Kd.R_slice HO497.out; subst eo108) | (go_at_call 15; (with_reducible refine (laws_vWithin.calls kj97 _ _ t485 _ _ t494 true _ ?side1 ?side2 ?side3 ?side4 A104.out).mono ?_); (case side1 => repeat (first | exact (Kd.R_reads' HO_19.out).2.2 | (with_reducible refine Kd.C_alloc ?_ _) | (with_reducible refine Kd.C_drewN ?_ _) | (with_reducible refine Kd.C_drew ?_))); (case side2 => exact (Kd.R_reads' HO_19.out).2.1); (case side3 => repeat (first | exact (Kd.R_reads' HO497.out).2.2 | (with_reducible refine Kd.C_alloc ?_ _) | (with_reducible refine Kd.C_drewN ?_ _) | (with_reducible refine Kd.C_drew ?_))); (case side4 => exact (Kd.R_reads' HO497.out).2.1); rintro e w' ⟨rfl, ⟨nd, rfl⟩⟩))
                     go_meet
                     case rel => exact ⟨_, H', ⟨by have := HJ7.out; have := HJ30.out; have := HJ87.out; have := HJ97.out; first | omega | exact Nat.le_refl _⟩, (aK BK452), (aK BK461), (aK BK471), (aK BK480), (aB HB)⟩
                    ·replace H := iF (by decide) H
                     exact absurd (Option.some.inj H) (by rw [hT]; decide)
                   ·replace H := iF (by decide) H
                    exact absurd (Option.some.inj H) (by rw [hT]; decide)
                  ·replace H := iF (by decide) H
                   have H' := Aside0.mk H
                   clear H
                   go_wp2
                   go_meet
                   case rel => exact ⟨_, H', ⟨by have := HJ7.out; have := HJ30.out; have := HJ87.out; have := HJ97.out; first | omega | exact Nat.le_refl _⟩, (aK BK452), (aK BK461), (aK BK471), (aK BK480), (aB HB)⟩
                 case rest =>
                  apply Classical.byContradiction
                  intro hn_
                  letI h_ : (0 : Nat) = 1 := (hn_ (by
                   clear hn_
                   clear HC100
                   try clear hcz11_0
                   try clear hcz11_1
                   try clear hcz11_2
                   try clear hcz11_3
                   try clear hcz11_4
                   try clear hcz16_0
                   try clear hcz16_1
                   try clear hcz16_2
                   try clear hcz16_3
                   try clear hcz16_4
                   try clear hcz17_0
                   try clear hcz17_1
                   try clear hcz17_2
                   try clear hcz17_3
                   try clear hcz17_4
                   try clear hcz37_0
                   try clear hcz37_1
                   try clear hcz37_2
                   try clear hcz37_3
                   try clear hcz37_4
                   try clear hcz44_0
                   try clear hcz44_1
                   try clear hcz44_2
                   try clear hcz44_3
                   try clear hcz44_4
                   try clear hfz11_0
                   try clear hfz16_0
                   try clear hfz17_0
                   try clear hfz37_0
                   try clear hfz44_0
                   obtain ⟨kq, HA, HJ99, BK452, BK461, BK471, BK480, HB⟩ := hcut
                   cases kq with
                   | zero => exact absurd HA.out (by simp [laws_FnTripLists.j4])
                   | succ kj99 =>
                    have H := HA.out
                    clear HA
                    simp only [laws_FnTripLists.j4] at H
                    replace H := bA H
                    obtain ⟨t499, A113, H⟩ := H
                    replace H := Option.bind_eq_some_iff.mp H
                    obtain ⟨⟨t502, t503⟩, A1140, H⟩ := H
                    replace H : ((spec_PeopleInside.f kj99 t499).bind fun bt504 => (if t502 = bt504.1 then (laws_FnTripLists.j5 kj99 t499 t502 t503 (t503 != bt504.2)) else (laws_FnTripLists.j5 kj99 t499 t502 t503 true))) = some r := H
                    have A114 := Aside0.mk A1140
                    clear A1140
                    replace H := Option.bind_eq_some_iff.mp H
                    obtain ⟨⟨t504, t505⟩, A1150, H⟩ := H
                    replace H : (if t502 = t504 then (laws_FnTripLists.j5 kj99 t499 t502 t503 (t503 != t505)) else (laws_FnTripLists.j5 kj99 t499 t502 t503 true)) = some r := H
                    have A115 := Aside0.mk A1150
                    clear A1150
                    have HC116 := Aside0.mk H
                    clear H
                    go_upto_region 27 with (first | ((with_reducible refine gate_callee (f := 16) rfl ?_); refine goesL_ (some 157) rfl rfl Tryz.func16 (by kernel_rfl) rfl #[.slice A0 l0.length c0] rfl argsB ?_; (with_reducible refine (spec_DrawPeopleInside.calls kj99 _ _ l0 t499 _ ?side1 ?side2 A113.out).mono ?_); (case side1 => repeat (first | exact (Kd.C_below HR0.out HB.out) | (with_reducible refine Kd.C_alloc ?_ _) | (with_reducible refine Kd.C_drewN ?_ _) | (with_reducible refine Kd.C_drew ?_))); (case side2 => exact HC0.out); rintro e w117 ⟨v500, rfl, ho0, hb⟩; refine ⟨_, rfl, ?_⟩; have HO501 := Aside0.mk (Kd.R_lower (Kd.R_newB (Kd.R_newB (Kd.R_newB (Kd.R_newB ho0 (g := gb452) (o := .cells #[.int .i64 t447, .int .i64 t448, .int .i64 t449, .int .i64 t450, .int .i64 t451] 25 (0, 0)) (upK BK452.out)) (g := gb461) (o := .cells #[.int .i64 t455, .int .i64 t456, .int .i64 t457, .int .i64 t458, .int .i64 t459] 25 (0, 0)) (upK BK461.out)) (g := gb471) (o := .cells #[.int .i64 t465, .int .i64 t466, .int .i64 t467, .int .i64 t468, .int .i64 t469] 25 (0, 0)) (upK BK471.out)) (g := gb480) (o := .cells #[.int .i64 t474, .int .i64 t475, .int .i64 t476, .int .i64 t477, .int .i64 t478] 25 (0, 0)) (upK BK480.out)) (below_size (bW HB))); replace BK452 := uK BK452 hb; replace BK461 := uK BK461 hb; replace BK471 := uK BK471 hb; replace BK480 := uK BK480 hb; replace HB := uB HB hb; (try clear hb); (try clear hk); (try clear ho0); obtain ⟨Ao118, co118, eo118⟩ := Kd.R_slice HO501.out; subst eo118) | ((with_reducible refine gC 17 ?_); refine lA (some 160) Tryz.func17 (impl_PeopleInside.calls kj99 _ _ t499 t502 t503 _ ?side1 ?side2 A114.out) ?_; (case side1 => repeat (first | exact (Kd.R_reads' HO501.out).2.2 | (with_reducible refine Kd.C_alloc ?_ _) | (with_reducible refine Kd.C_drewN ?_ _) | (with_reducible refine Kd.C_drew ?_))); (case side2 => exact (Kd.R_reads' HO501.out).2.1); intro w119 hb; replace HO501 := uR HO501 hb; replace BK452 := uK BK452 hb; replace BK461 := uK BK461 hb; replace BK471 := uK BK471 hb; replace BK480 := uK BK480 hb; replace HB := uB HB hb; (try clear hb); (try clear hk)) | ((with_reducible refine gC 18 ?_); refine lA (some 165) Tryz.func18 (spec_PeopleInside.calls kj99 _ _ t499 t504 t505 _ ?side1 ?side2 A115.out) ?_; (case side1 => repeat (first | exact (Kd.R_reads' HO501.out).2.2 | (with_reducible refine Kd.C_alloc ?_ _) | (with_reducible refine Kd.C_drewN ?_ _) | (with_reducible refine Kd.C_drew ?_))); (case side2 => exact (Kd.R_reads' HO501.out).2.1); intro w120 hb; replace HO501 := uR HO501 hb; replace BK452 := uK BK452 hb; replace BK461 := uK BK461 hb; replace BK471 := uK BK471 hb; replace BK480 := uK BK480 hb; replace HB := uB HB hb; (try clear hb); (try clear hk)))
                    (try simp only [Act.put, List.setIfInBounds_toArray, List.set_cons_zero, List.set_cons_succ])
                    go_cut [175] (fun v175 wc => ∃ (kq : Nat) (x175_115 : Bool), v175 = .bool x175_115 ∧ Aside0 (laws_FnTripLists.j5 kq t499 t502 t503 x175_115 = some r) ∧ Aside0 (kq ≤ kj99) ∧ Aside0 (Kd.R k25 25 wc w.heap.size (fun k_ => k_ ≠ gb452 ∧ k_ ≠ gb461 ∧ k_ ≠ gb471 ∧ k_ ≠ gb480) (.slice Ao118 t499.length co118) t499) ∧ Aside0 (wc.heap[gb452]? = some (.cells #[.int .i64 t447, .int .i64 t448, .int .i64 t449, .int .i64 t450, .int .i64 t451] 25 (0, 0))) ∧ Aside0 (wc.heap[gb461]? = some (.cells #[.int .i64 t455, .int .i64 t456, .int .i64 t457, .int .i64 t458, .int .i64 t459] 25 (0, 0))) ∧ Aside0 (wc.heap[gb471]? = some (.cells #[.int .i64 t465, .int .i64 t466, .int .i64 t467, .int .i64 t468, .int .i64 t469] 25 (0, 0))) ∧ Aside0 (wc.heap[gb480]? = some (.cells #[.int .i64 t474, .int .i64 t475, .int .i64 t476, .int .i64 t477, .int .i64 t478] 25 (0, 0))) ∧ Aside0 (Below w.heap.size w wc))
                    case first =>
                     have H := HC116.out
                     clear HC116
                     replace H := ifI H
                     rcases H with ⟨H, -, c121b0, c121b1⟩ | ⟨H, c121, c121b0, c121b1⟩
                     ·(first | rw [c121b0] | (simp only [i64_w, i32_w]; rw [c121b0]) | skip)
                      have H' := Aside0.mk H
                      clear H
                      go_wp2
                      go_meet
                      case rel => exact ⟨_, ((t503 != t505)), rB, H', ⟨by have := HJ7.out; have := HJ30.out; have := HJ87.out; have := HJ97.out; have := HJ99.out; first | omega | exact Nat.le_refl _⟩, ⟨by (with_reducible repeat (first | apply Kd.R_alloc | apply Kd.R_drewN | apply Kd.R_drew)); exact Kd.R_mono HO501.out (fun _ hk => ⟨hk.1.1.1.2, ⟨hk.1.1.2, ⟨hk.1.2, hk.2⟩⟩⟩)⟩, (aK BK452), (aK BK461), (aK BK471), (aK BK480), (aB HB)⟩
                     ·(first | rw [c121b0] | (simp only [i64_w, i32_w]; rw [c121b0]) | skip)
                      have H' := Aside0.mk H
                      clear H
                      go_wp2
                      go_meet
                      case rel => exact ⟨_, (true), rB, H', ⟨by have := HJ7.out; have := HJ30.out; have := HJ87.out; have := HJ97.out; have := HJ99.out; first | omega | exact Nat.le_refl _⟩, ⟨by (with_reducible repeat (first | apply Kd.R_alloc | apply Kd.R_drewN | apply Kd.R_drew)); exact Kd.R_mono HO501.out (fun _ hk => ⟨hk.1.1.1.2, ⟨hk.1.1.2, ⟨hk.1.2, hk.2⟩⟩⟩)⟩, (aK BK452), (aK BK461), (aK BK471), (aK BK480), (aB HB)⟩
                    case rest =>
                     apply Classical.byContradiction
                     intro hn_
                     letI h_ : (0 : Nat) = 1 := (hn_ (by
                      clear hn_
                      clear HC116
                      try clear hcz11_0
                      try clear hcz11_1
                      try clear hcz11_2
                      try clear hcz11_3
                      try clear hcz11_4
                      try clear hcz16_0
                      try clear hcz16_1
                      try clear hcz16_2
                      try clear hcz16_3
                      try clear hcz16_4
                      try clear hcz17_0
                      try clear hcz17_1
                      try clear hcz17_2
                      try clear hcz17_3
                      try clear hcz17_4
                      try clear hcz37_0
                      try clear hcz37_1
                      try clear hcz37_2
                      try clear hcz37_3
                      try clear hcz37_4
                      try clear hcz44_0
                      try clear hcz44_1
                      try clear hcz44_2
                      try clear hcz44_3
                      try clear hcz44_4
                      try clear hfz11_0
                      try clear hfz16_0
                      try clear hfz17_0
                      try clear hfz37_0
                      try clear hfz44_0
                      obtain ⟨kq, x175_115, rfl, HA, HJ115, HO_25, BK452, BK461, BK471, BK480, HB⟩ := hcut
                      cases kq with
                      | zero => exact absurd HA.out (by simp [laws_FnTripLists.j5])
                      | succ kj115 =>
                       have H := HA.out
                       clear HA
                       simp only [laws_FnTripLists.j5] at H
                       rcases Bool.eq_false_or_eq_true x175_115 with rfl | rfl
                       ·replace H := iT rfl H
                        exact absurd (Option.some.inj H) (by rw [hT]; decide)
                       ·replace H := iF (by decide) H
                        have HC123 := Aside0.mk H
                        clear H
                        go_upto_region 29 with (fail)
                        go_cut [181] (fun v181 wc => ∃ (kq : Nat) (x181_122 : Bool), v181 = .bool x181_122 ∧ Aside0 (laws_FnTripLists.j6 kq t499 t502 x181_122 = some r) ∧ Aside0 (kq ≤ kj115) ∧ Aside0 (Kd.R k25 25 wc w.heap.size (fun k_ => k_ ≠ gb452 ∧ k_ ≠ gb461 ∧ k_ ≠ gb471 ∧ k_ ≠ gb480) (.slice Ao118 t499.length co118) t499) ∧ Aside0 (wc.heap[gb452]? = some (.cells #[.int .i64 t447, .int .i64 t448, .int .i64 t449, .int .i64 t450, .int .i64 t451] 25 (0, 0))) ∧ Aside0 (wc.heap[gb461]? = some (.cells #[.int .i64 t455, .int .i64 t456, .int .i64 t457, .int .i64 t458, .int .i64 t459] 25 (0, 0))) ∧ Aside0 (wc.heap[gb471]? = some (.cells #[.int .i64 t465, .int .i64 t466, .int .i64 t467, .int .i64 t468, .int .i64 t469] 25 (0, 0))) ∧ Aside0 (wc.heap[gb480]? = some (.cells #[.int .i64 t474, .int .i64 t475, .int .i64 t476, .int .i64 t477, .int .i64 t478] 25 (0, 0))) ∧ Aside0 (Below w.heap.size w wc))
                        case first =>
                         have H := HC123.out
                         clear HC123
                         rcases Bool.eq_false_or_eq_true t503 with rfl | rfl
                         ·replace H := iT rfl H
                          have H' := Aside0.mk H
                          clear H
                          go_wp2
                          go_meet
                          case rel => exact ⟨_, (decide ((t499.length : Int) > 0)), rB, H', ⟨by have := HJ7.out; have := HJ30.out; have := HJ87.out; have := HJ97.out; have := HJ99.out; have := HJ115.out; first | omega | exact Nat.le_refl _⟩, ⟨upR HO_25.out⟩, (aK BK452), (aK BK461), (aK BK471), (aK BK480), (aB HB)⟩
                         ·replace H := iF (by decide) H
                          have H' := Aside0.mk H
                          clear H
                          go_wp2
                          go_meet
                          case rel => exact ⟨_, (false), rB, H', ⟨by have := HJ7.out; have := HJ30.out; have := HJ87.out; have := HJ97.out; have := HJ99.out; have := HJ115.out; first | omega | exact Nat.le_refl _⟩, ⟨upR HO_25.out⟩, (aK BK452), (aK BK461), (aK BK471), (aK BK480), (aB HB)⟩
                        case rest =>
                         apply Classical.byContradiction
                         intro hn_
                         letI h_ : (0 : Nat) = 1 := (hn_ (by
                          clear hn_
                          clear HC123
                          try clear hcz11_0
                          try clear hcz11_1
                          try clear hcz11_2
                          try clear hcz11_3
                          try clear hcz11_4
                          try clear hcz16_0
                          try clear hcz16_1
                          try clear hcz16_2
                          try clear hcz16_3
                          try clear hcz16_4
                          try clear hcz17_0
                          try clear hcz17_1
                          try clear hcz17_2
                          try clear hcz17_3
                          try clear hcz17_4
                          try clear hcz37_0
                          try clear hcz37_1
                          try clear hcz37_2
                          try clear hcz37_3
                          try clear hcz37_4
                          try clear hcz44_0
                          try clear hcz44_1
                          try clear hcz44_2
                          try clear hcz44_3
                          try clear hcz44_4
                          try clear hfz11_0
                          try clear hfz16_0
                          try clear hfz17_0
                          try clear hfz37_0
                          try clear hfz44_0
                          obtain ⟨kq, x181_122, rfl, HA, HJ122, HO_25, BK452, BK461, BK471, BK480, HB⟩ := hcut
                          cases kq with
                          | zero => exact absurd HA.out (by simp [laws_FnTripLists.j6])
                          | succ kj122 =>
                           have H := HA.out
                           clear HA
                           simp only [laws_FnTripLists.j6] at H
                           rcases Bool.eq_false_or_eq_true x181_122 with rfl | rfl
                           ·replace H := iT rfl H
                            by_cases c126 : 1 ≤ (t499.length : Int)
                            ·rw [if_pos c126] at H
                             have c126b0 := eq_true c126
                             have c126b1 : decide (1 ≤ (t499.length : Int)) = true := decide_eq_true c126
                             clear c126
                             obtain ⟨y506, hy506⟩ : ∃ y_ : List (S25), y_ = (t499.take 1) := ⟨_, rfl⟩
                             replace H : ((impl_PeopleInside.f kj122 y506).bind fun bt510 => ((impl_PeopleInside.f kj122 (t499.drop 1)).bind fun bt516 => (if bt510.2 = true then (if bt516.2 = true then (some ((wrap64 (bt510.1 + bt516.1)) == t502)) else (some false)) else (some false)))) = some r := by first | (rw [hy506]; with_reducible exact H) | (have H2_ := (Option.bind_some _ _).symm.trans H; rw [hy506]; with_reducible exact H2_) | (have H2_ := (Option.bind_some _ _).symm.trans H; with_reducible exact H2_) | with_reducible exact H | (rw [hy506]; exact H) | exact H
                             have Ny506 := Aside0.mk hy506
                             clear hy506
                             replace H := Option.bind_eq_some_iff.mp H
                             obtain ⟨⟨t510, t511⟩, A1270, H⟩ := H
                             replace H : ((impl_PeopleInside.f kj122 (t499.drop 1)).bind fun bt516 => (if t511 = true then (if bt516.2 = true then (some ((wrap64 (t510 + bt516.1)) == t502)) else (some false)) else (some false))) = some r := H
                             have A127 := Aside0.mk A1270
                             clear A1270
                             have c128b0 := eq_true (of_decide_eq_true asmB : 1 ≤ (t499.length : Int))
                             obtain ⟨y512, hy512⟩ : ∃ y_ : List (S25), y_ = (t499.drop 1) := ⟨_, rfl⟩
                             replace H : ((impl_PeopleInside.f kj122 y512).bind fun bt516 => (if t511 = true then (if bt516.2 = true then (some ((wrap64 (t510 + bt516.1)) == t502)) else (some false)) else (some false))) = some r := by first | (rw [hy512]; with_reducible exact H) | (have H2_ := (Option.bind_some _ _).symm.trans H; rw [hy512]; with_reducible exact H2_) | (have H2_ := (Option.bind_some _ _).symm.trans H; with_reducible exact H2_) | with_reducible exact H | (rw [hy512]; exact H) | exact H
                             have Ny512 := Aside0.mk hy512
                             clear hy512
                             replace H := Option.bind_eq_some_iff.mp H
                             obtain ⟨⟨t516, t517⟩, A1290, H⟩ := H
                             replace H : (if t511 = true then (if t517 = true then (some ((wrap64 (t510 + t516)) == t502)) else (some false)) else (some false)) = some r := H
                             have A129 := Aside0.mk A1290
                             clear A1290
                             rcases Bool.eq_false_or_eq_true t511 with rfl | rfl
                             ·replace H := iT rfl H
                              rcases Bool.eq_false_or_eq_true t517 with rfl | rfl
                              ·replace H := iT rfl H
                               obtain rfl := (Option.some.inj H)
                               have q132 : (1 : Int) ≤ ((t499.length : Int) : Int) := of_decide_eq_true asmB
                               obtain ⟨i0132, hi0132, _, hsz132, _⟩ := info_parts info25
                               have hroom132 : t499.length ≤ co118 := (Kd.R_reads' HO_25.out).2.1
                               have hC132 : Kd.C k25 _ Ao118 t499.length t499 := (Kd.R_reads' HO_25.out).2.2
                               have hcut132 := cut_to (P := Tryz.prog) 32 25 .i64 Tryz.underlying32 hi0132 Ao118 t499.length co118 1 (by omega) q132 hroom132
                               have hr132 := Kd.C_take (m := 1) hC132 (by omega)
                               have hy132 : y506.length = (1 : Int).toNat := (by rw [Ny506.out, List.length_take]; omega)
                               rw [← Ny506.out] at hr132
                               rw [← hy132] at hcut132
                               have HR509 := Aside0.mk hr132
                               have HC509 := Aside0.mk (show y506.length ≤ co118 from by omega)
                               clear hr132 hC132 hroom132 hi0132 hsz132
                               have KY132 := Aside0.mk hy132
                               clear hy132
                               have KL132 := Aside0.mk (show 1 ≤ t499.length from by omega)
                               replace q132 := eq_true q132
                               go_wp2_with (first | ((with_reducible refine gC 17 ?_); refine lA (some 185) Tryz.func17 (impl_PeopleInside.calls kj122 _ _ y506 t510 true _ ?side1 ?side2 A127.out) ?_; (case side1 => repeat (first | exact (by repeat (first | (with_reducible exact HR509.out) | (with_reducible refine Kd.C_alloc ?_ _) | (with_reducible refine Kd.C_drewN ?_ _) | (with_reducible refine Kd.C_drew ?_) | exact HR509.out)) | (with_reducible refine Kd.C_alloc ?_ _) | (with_reducible refine Kd.C_drewN ?_ _) | (with_reducible refine Kd.C_drew ?_))); (case side2 => exact HC509.out); intro w133 hb; replace HO_25 := uR HO_25 hb; replace BK452 := uK BK452 hb; replace BK461 := uK BK461 hb; replace BK471 := uK BK471 hb; replace BK480 := uK BK480 hb; replace HR509 := Aside0.mk (Kd.C_below (by repeat (first | (with_reducible exact HR509.out) | (with_reducible refine Kd.C_alloc ?_ _) | (with_reducible refine Kd.C_drewN ?_ _) | (with_reducible refine Kd.C_drew ?_) | exact HR509.out)) hb); replace HB := uB HB hb; (try clear hb); (try clear hk); have q134 : (1 : Int) ≤ ((t499.length : Int) : Int) := of_decide_eq_true asmB; obtain ⟨i0134, hi0134, _, hsz134, _⟩ := info_parts info25; have hroom134 : t499.length ≤ co118 := (Kd.R_reads' HO_25.out).2.1; have hC134 : Kd.C k25 _ Ao118 t499.length t499 := (Kd.R_reads' HO_25.out).2.2; have hcut134 := cut_from (P := Tryz.prog) 32 25 .i64 Tryz.underlying32 hi0134 5 hsz134 Ao118 t499.length co118 1 (by omega) q134; have hr134 := Kd.C_drop (m := (1 : Int).toNat) (c := co118) hC134 (by omega) hroom134; obtain ⟨A134, hA134⟩ : ∃ Az_, Az_ = (if co118 = (1 : Int).toNat then Ao118 else (Ao118 : Option Addr).map (·.add ((1 : Int).toNat * 5))) := ⟨_, rfl⟩; obtain ⟨c134, hc134⟩ : ∃ c1, c1 = co118 - (1 : Int).toNat := ⟨_, rfl⟩; have hy134 : y512.length = t499.length - (1 : Int).toNat := (by rw [Ny512.out, List.length_drop] <;> omega); rw [show (t499).drop (1 : Int).toNat = y512 from Ny512.out.symm] at hr134; replace hr134 : Kd.C k25 _ A134 y512.length y512 := (by rw [hA134]; exact hr134); rw [← hy134, ← hA134, ← hc134] at hcut134; have HR515 := Aside0.mk hr134; have HC515 := Aside0.mk (show y512.length ≤ c134 from by rw [hy134, hc134]; exact Nat.sub_le_sub_right hroom134 _); clear hr134 hC134 hroom134 hi0134 hsz134 hc134; have KY134 := Aside0.mk hy134; have KA134 := Aside0.mk hA134; clear hy134 hA134; have KL134 := Aside0.mk (show 1 ≤ t499.length from by omega); replace q134 := eq_true q134) | ((with_reducible refine gC 17 ?_); refine lA (some 191) Tryz.func17 (impl_PeopleInside.calls kj122 _ _ y512 t516 true _ ?side1 ?side2 A129.out) ?_; (case side1 => repeat (first | exact (by repeat (first | (with_reducible exact HR515.out) | (with_reducible refine Kd.C_alloc ?_ _) | (with_reducible refine Kd.C_drewN ?_ _) | (with_reducible refine Kd.C_drew ?_) | exact HR515.out)) | (with_reducible refine Kd.C_alloc ?_ _) | (with_reducible refine Kd.C_drewN ?_ _) | (with_reducible refine Kd.C_drew ?_))); (case side2 => exact HC515.out); intro w135 hb; replace HO_25 := uR HO_25 hb; replace BK452 := uK BK452 hb; replace BK461 := uK BK461 hb; replace BK471 := uK BK471 hb; replace BK480 := uK BK480 hb; replace HR509 := Aside0.mk (Kd.C_below (by repeat (first | (with_reducible exact HR509.out) | (with_reducible refine Kd.C_alloc ?_ _) | (with_reducible refine Kd.C_drewN ?_ _) | (with_reducible refine Kd.C_drew ?_) | exact HR509.out)) hb); replace HR515 := Aside0.mk (Kd.C_below (by repeat (first | (with_reducible exact HR515.out) | (with_reducible refine Kd.C_alloc ?_ _) | (with_reducible refine Kd.C_drewN ?_ _) | (with_reducible refine Kd.C_drew ?_) | exact HR515.out)) hb); replace HB := uB HB hb; (try clear hb); (try clear hk)))
                               go_ret
                               exact ⟨eB, (bW HB)⟩
                              ·replace H := iF (by decide) H
                               exact absurd (Option.some.inj H) (by rw [hT]; decide)
                             ·replace H := iF (by decide) H
                              exact absurd (Option.some.inj H) (by rw [hT]; decide)
                            ·rw [if_neg c126] at H
                             exact absurd H (by simp)
                           ·replace H := iF (by decide) H
                            obtain rfl := (Option.some.inj H)
                            go_wp2
                            go_ret
                            exact ⟨eB, (bW HB)⟩
                          )).elim
                         omega
                      )).elim
                     omega
                   )).elim
                  omega
                )).elim
               omega
            )).elim
           omega
        )).elim
       omega
    )).elim
   omega

end Go.Proofs.YtmeaacbnjpgepaaGreatDoor.QFnTripLists
