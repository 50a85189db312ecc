/- Contracts of Go functions that FnPermitDays reaches: the call computes what the plain function says. No condition. -/
import Derived.Test.YtgeioccfjgpijaaDoorQFnPermitDaysx0
import Derived.Test.YtgeioccfjgpijaaDoorQFnPermitDaysx2
import Derived.Test.YtgeioccfjgpijaaDoorQFnPermitDaysx3
import Derived.Test.YtgeioccfjgpijaaDoorQFnPermitDaysx4
import Derived.Test.YtgeioccfjgpijaaDoorQFnPermitDaysx6
import Derived.Test.YtgeioccfjgpijaaDoorQFnPermitDaysx7
import Derived.Test.YtgeioccfjgpijaaDoorQFnPermitDaysx8
import Derived.Test.YtgeioccfjgpijaaDoorQFnPermitDaysx10
namespace Go.Proofs.YtgeioccfjgpijaaDoor.QFnPermitDays
open Go.RowKit Go.Proofs.YtgeioccfjgpijaaDoorW.PrintWords Go.Proofs.YtgeioccfjgpijaaDoorW.PrintLast Go.Proofs.YtgeioccfjgpijaaDoorW.PrintMore
attribute [local go_sem] max2_int min2_int max_two min_two max_three min_three max_four min_four   -- for this text's walks alone
set_option linter.unusedVariables false
set_option linter.unusedSimpArgs false

/-! ### laws_FnPermitDays: function 13 -/
mutual
def laws_FnPermitDays.j0 : Nat → List Int → List (S26) → ByteArray → List (List Int) → Bool → Option (Bool)
 | 0, _, _, _, _, _ => none
 | k + 1, x0, x3, x4, x7, x74 => if x74 = true then (some false) else (laws_FnPermitDays.l0 k x0 x3 x4 x7 0)
def laws_FnPermitDays.l0 : Nat → List Int → List (S26) → ByteArray → List (List Int) → Int → Option (Bool)
 | 0, _, _, _, _, _ => none
 | k + 1, x0, x3, x4, x7, x11 => if x11 < (x7.length : Int) then (if 0 ≤ x11 then (if 0 < ((rd_L5 x7 x11).length : Int) then ((impl_AllowedOn.f k x3 x4 (rd (rd_L5 x7 x11) 0)).bind fun bt525 => (if 1 < ((rd_L5 x7 x11).length : Int) then ((impl_AllowedOn.f k x3 x4 (rd (rd_L5 x7 x11) 1)).bind fun bt529 => (if bt525.2 = true then (some false) else (if bt529.2 = true then (some false) else (if (rd (rd_L5 x7 x11) 0) > (rd (rd_L5 x7 x11) 1) then (some false) else (if x11 > 0 then (if 0 ≤ (wrap64 (x11 - 1)) then (if (wrap64 (x11 - 1)) < (x7.length : Int) then (if 1 < ((rd_L5 x7 (wrap64 (x11 - 1))).length : Int) then (if (rd (rd_L5 x7 x11) 0) ≤ (wrap64 ((rd (rd_L5 x7 (wrap64 (x11 - 1))) 1) + 1)) then (some false) else (laws_FnPermitDays.l0 k x0 x3 x4 x7 (wrap64 (x11 + 1)))) else (none)) else (none)) else (none)) else (laws_FnPermitDays.l0 k x0 x3 x4 x7 (wrap64 (x11 + 1)))))))) else (none))) else (none)) else (none)) else ((spec_DrawFirstSlot.f k x0).bind fun bt539 => ((impl_FirstSlot.f k bt539.1 bt539.2.1 bt539.2.2.1 bt539.2.2.2).bind fun bt545 => ((spec_FirstSlot.f k bt539.1 bt539.2.1 bt539.2.2.1 bt539.2.2.2).bind fun bt547 => (if bt545.1 = bt547.1 then (laws_FnPermitDays.j2 k x0 bt539.1 bt539.2.1 bt539.2.2.2 bt545.1 bt545.2 (bt545.2 != bt547.2)) else (laws_FnPermitDays.j2 k x0 bt539.1 bt539.2.1 bt539.2.2.2 bt545.1 bt545.2 true)))))
def laws_FnPermitDays.j2 : Nat → List Int → List (S26) → ByteArray → Int → Int → Bool → Bool → Option (Bool)
 | 0, _, _, _, _, _, _, _ => none
 | k + 1, x0, x16, x17, x19, x20, x21, x175 => if x175 = true then (some false) else (if x21 = true then ((impl_AskPermit.f k x16 x17 x20 (wrap64 ((wrap64 (x20 + x19)) - 1)) 1).bind fun bt549 => (if bt549.2.2 = true then ((impl_DecidePermit.f k bt549.1 bt549.2.1 true).bind fun bt554 => (if bt554.2 = true then ((impl_ArePermits.f k bt554.1).bind fun t558 => (if t558 = true then (laws_FnPermitDays.j3 k x0) else (some false))) else (some false))) else (laws_FnPermitDays.j3 k x0))) else (laws_FnPermitDays.j3 k x0))
def laws_FnPermitDays.j3 : Nat → List Int → Option (Bool)
 | 0, _ => none
 | k + 1, x0 => (spec_DrawAskPermit.f k x0).bind fun bt559 => ((impl_AskPermit.f k bt559.1 bt559.2.1 bt559.2.2.1 bt559.2.2.2.1 bt559.2.2.2.2).bind fun bt566 => ((spec_AskPermit.f k bt559.1 bt559.2.1 bt559.2.2.1 bt559.2.2.2.1 bt559.2.2.2.2).bind fun bt571 => (if (bt566.2.2 != bt571.2.2) = true then (laws_FnPermitDays.j4 k x0 bt559.1 bt566.1 bt566.2.1 bt566.2.2 true) else (if bt566.2.1 = bt571.2.1 then ((laws_rPermits.f k bt566.1 bt571.1).bind fun t576 => (laws_FnPermitDays.j4 k x0 bt559.1 bt566.1 bt566.2.1 bt566.2.2 (!t576))) else (laws_FnPermitDays.j4 k x0 bt559.1 bt566.1 bt566.2.1 bt566.2.2 true)))))
def laws_FnPermitDays.j4 : Nat → List Int → List (S26) → List (S26) → Int → Bool → Bool → Option (Bool)
 | 0, _, _, _, _, _, _ => none
 | k + 1, x0, x29, x34, x35, x36, x244 => if x244 = true then (some false) else ((spec_DrawIsPermit.f x0).bind fun bt577 => ((impl_IsPermit.f bt577.1 bt577.2.1 bt577.2.2.1 bt577.2.2.2.1 bt577.2.2.2.2.1 bt577.2.2.2.2.2).bind fun t584 => ((spec_IsPermit.f k bt577.1 bt577.2.1 bt577.2.2.1 bt577.2.2.2.1 bt577.2.2.2.2.1 bt577.2.2.2.2.2).bind fun t585 => (if (t584 == t585) = true then (if x36 = true then (if 0 ≤ (wrap64 ((x34.length : Int) - 1)) then (if (wrap64 ((x34.length : Int) - 1)) < (x34.length : Int) then (if ((rd_T26 x34 (wrap64 ((x34.length : Int) - 1))).f0) = x35 then (some ((x34.length : Int) == (wrap64 ((x29.length : Int) + 1)))) else (some false)) else (none)) else (none)) else (some true)) else (some false)))))
end
def laws_FnPermitDays.f (k : Nat) (l0 : List Int) : Option (Bool) := (laws_rBig.f l0).bind fun t507 => (if t507 = true then (some true) else ((spec_DrawFreeDays.f k l0).bind fun bt508 => ((impl_FreeDays.f k bt508.1 bt508.2.1 bt508.2.2.1 bt508.2.2.2).bind fun bt514 => ((spec_FreeDays.f k bt508.1 bt508.2.1 bt508.2.2.1 bt508.2.2.2).bind fun bt518 => (if (bt514.2 != bt518.2) = true then (laws_FnPermitDays.j0 k l0 bt508.1 bt508.2.1 bt514.1 true) else ((laws_rTable.f k bt514.1 bt518.1).bind fun t522 => (laws_FnPermitDays.j0 k l0 bt508.1 bt508.2.1 bt514.1 (!t522))))))))
theorem laws_FnPermitDays.mono_l : ∀ k, (∀ y0 y1 y2 y3 y4, LeO (laws_FnPermitDays.j0 k y0 y1 y2 y3 y4) (laws_FnPermitDays.j0 (k + 1) y0 y1 y2 y3 y4)) ∧ (∀ y0 y1 y2 y3 y4, LeO (laws_FnPermitDays.l0 k y0 y1 y2 y3 y4) (laws_FnPermitDays.l0 (k + 1) y0 y1 y2 y3 y4)) ∧ (∀ y0 y1 y2 y3 y4 y5 y6, LeO (laws_FnPermitDays.j2 k y0 y1 y2 y3 y4 y5 y6) (laws_FnPermitDays.j2 (k + 1) y0 y1 y2 y3 y4 y5 y6)) ∧ (∀ y0, LeO (laws_FnPermitDays.j3 k y0) (laws_FnPermitDays.j3 (k + 1) y0)) ∧ (∀ y0 y1 y2 y3 y4 y5, LeO (laws_FnPermitDays.j4 k y0 y1 y2 y3 y4 y5) (laws_FnPermitDays.j4 (k + 1) y0 y1 y2 y3 y4 y5))
 | 0 => ⟨fun _ _ _ _ _ r h => by simp [laws_FnPermitDays.j0] at h, fun _ _ _ _ _ r h => by simp [laws_FnPermitDays.l0] at h, fun _ _ _ _ _ _ _ r h => by simp [laws_FnPermitDays.j2] at h, fun _ r h => by simp [laws_FnPermitDays.j3] at h, fun _ _ _ _ _ _ r h => by simp [laws_FnPermitDays.j4] at h⟩
 | k + 1 => by
  obtain ⟨ih0, ih1, ih2, ih3, ih4⟩ := laws_FnPermitDays.mono_l k
  refine ⟨?_, ?_, ?_, ?_, ?_⟩
  ·intro y0 y1 y2 y3 y4
   unfold laws_FnPermitDays.j0
   repeat' with_reducible first | apply ih0 | apply ih1 | apply ih2 | apply ih3 | apply ih4 | apply impl_AllowedOn.mono | apply impl_ArePermits.mono | apply impl_AskPermit.mono | apply impl_DecidePermit.mono | apply impl_FirstSlot.mono | apply impl_FreeDays.mono | apply laws_rPermits.mono | apply laws_rTable.mono | apply spec_AskPermit.mono | apply spec_DrawAskPermit.mono | apply spec_DrawFirstSlot.mono | apply spec_DrawFreeDays.mono | apply spec_FirstSlot.mono | apply spec_FreeDays.mono | apply spec_IsPermit.mono | exact LeO.refl _ | exact LeO.none _ | refine LeO.ite ?_ ?_ | refine LeO.bind ?_ (fun _ => ?_)
  ·intro y0 y1 y2 y3 y4
   unfold laws_FnPermitDays.l0
   repeat' with_reducible first | apply ih0 | apply ih1 | apply ih2 | apply ih3 | apply ih4 | apply impl_AllowedOn.mono | apply impl_ArePermits.mono | apply impl_AskPermit.mono | apply impl_DecidePermit.mono | apply impl_FirstSlot.mono | apply impl_FreeDays.mono | apply laws_rPermits.mono | apply laws_rTable.mono | apply spec_AskPermit.mono | apply spec_DrawAskPermit.mono | apply spec_DrawFirstSlot.mono | apply spec_DrawFreeDays.mono | apply spec_FirstSlot.mono | apply spec_FreeDays.mono | apply spec_IsPermit.mono | exact LeO.refl _ | exact LeO.none _ | refine LeO.ite ?_ ?_ | refine LeO.bind ?_ (fun _ => ?_)
  ·intro y0 y1 y2 y3 y4 y5 y6
   unfold laws_FnPermitDays.j2
   repeat' with_reducible first | apply ih0 | apply ih1 | apply ih2 | apply ih3 | apply ih4 | apply impl_AllowedOn.mono | apply impl_ArePermits.mono | apply impl_AskPermit.mono | apply impl_DecidePermit.mono | apply impl_FirstSlot.mono | apply impl_FreeDays.mono | apply laws_rPermits.mono | apply laws_rTable.mono | apply spec_AskPermit.mono | apply spec_DrawAskPermit.mono | apply spec_DrawFirstSlot.mono | apply spec_DrawFreeDays.mono | apply spec_FirstSlot.mono | apply spec_FreeDays.mono | apply spec_IsPermit.mono | exact LeO.refl _ | exact LeO.none _ | refine LeO.ite ?_ ?_ | refine LeO.bind ?_ (fun _ => ?_)
  ·intro y0
   unfold laws_FnPermitDays.j3
   repeat' with_reducible first | apply ih0 | apply ih1 | apply ih2 | apply ih3 | apply ih4 | apply impl_AllowedOn.mono | apply impl_ArePermits.mono | apply impl_AskPermit.mono | apply impl_DecidePermit.mono | apply impl_FirstSlot.mono | apply impl_FreeDays.mono | apply laws_rPermits.mono | apply laws_rTable.mono | apply spec_AskPermit.mono | apply spec_DrawAskPermit.mono | apply spec_DrawFirstSlot.mono | apply spec_DrawFreeDays.mono | apply spec_FirstSlot.mono | apply spec_FreeDays.mono | apply spec_IsPermit.mono | exact LeO.refl _ | exact LeO.none _ | refine LeO.ite ?_ ?_ | refine LeO.bind ?_ (fun _ => ?_)
  ·intro y0 y1 y2 y3 y4 y5
   unfold laws_FnPermitDays.j4
   repeat' with_reducible first | apply ih0 | apply ih1 | apply ih2 | apply ih3 | apply ih4 | apply impl_AllowedOn.mono | apply impl_ArePermits.mono | apply impl_AskPermit.mono | apply impl_DecidePermit.mono | apply impl_FirstSlot.mono | apply impl_FreeDays.mono | apply laws_rPermits.mono | apply laws_rTable.mono | apply spec_AskPermit.mono | apply spec_DrawAskPermit.mono | apply spec_DrawFirstSlot.mono | apply spec_DrawFreeDays.mono | apply spec_FirstSlot.mono | apply spec_FreeDays.mono | apply spec_IsPermit.mono | exact LeO.refl _ | exact LeO.none _ | refine LeO.ite ?_ ?_ | refine LeO.bind ?_ (fun _ => ?_)
theorem laws_FnPermitDays.mono : ∀ a0 k, LeO (laws_FnPermitDays.f k a0) (laws_FnPermitDays.f (k + 1) a0) := by
 intro a0 k
 obtain ⟨ih0, ih1, ih2, ih3, ih4⟩ := laws_FnPermitDays.mono_l k
 unfold laws_FnPermitDays.f
 repeat' with_reducible first | apply ih0 | apply ih1 | apply ih2 | apply ih3 | apply ih4 | apply impl_AllowedOn.mono | apply impl_ArePermits.mono | apply impl_AskPermit.mono | apply impl_DecidePermit.mono | apply impl_FirstSlot.mono | apply impl_FreeDays.mono | apply laws_rPermits.mono | apply laws_rTable.mono | apply spec_AskPermit.mono | apply spec_DrawAskPermit.mono | apply spec_DrawFirstSlot.mono | apply spec_DrawFreeDays.mono | apply spec_FirstSlot.mono | apply spec_FreeDays.mono | apply spec_IsPermit.mono | exact LeO.refl _ | exact LeO.none _ | refine LeO.ite ?_ ?_ | refine LeO.bind ?_ (fun _ => ?_)
def laws_FnPermitDays.T13 : Bool × List (List Nat × List Nat) := (true, [([], []), ([0], [0]), ([1], [1]), ([1, 2], [1, 2]), ([3, 1], [3]), ([4], [4]), ([4], [4]), ([5, 6, 4], [4, 5, 6]), ([7, 4], [4, 7]), ([8, 4], [4, 8]), ([9, 4], [4, 9]), ([4], [4]), ([4], [4]), ([11, 12, 4], [4, 11, 12]), ([13, 4], [4, 13]), ([14, 4], [4, 14]), ([15, 4], [4, 15]), ([10, 16, 4], [4, 10, 16]), ([4, 17], [4, 17]), ([18, 4], [18]), ([19], [19]), ([20, 19], [19, 20]), ([21, 19, 19], [19, 21]), ([22], [22]), ([22], [22]), ([23, 24, 22], [22, 23, 24]), ([25, 22], [22, 25]), ([26, 22], [22, 26]), ([27, 22], [22, 27]), ([22], [22]), ([22], [22]), ([30, 22], [22, 30]), ([29, 31, 22], [22, 29, 31]), ([32, 22], [22, 32]), ([33, 22], [22, 33]), ([34, 22], [22, 34]), ([35, 22], [22, 35]), ([28, 36, 22], [22, 28, 36]), ([22, 37, 19], [19, 22, 37]), ([19, 38], [19, 38])])
def laws_FnPermitDays.B13 : List Nat := [0, 1, 3, 7, 15, 31, 31, 127, 255, 511, 1023, 31, 31, 6175, 14367, 30751, 63519, 131071, 262143, 524287, 1048575, 2097151, 4194303, 8388607, 8388607, 33554431, 67108863, 134217727, 268435455, 8388607, 8388607, 1082130431, 3766484991, 8061452287, 16651386879, 33831256063, 68190994431, 137438953471, 274877906943, 549755813887]
theorem laws_FnPermitDays.tab13 : rtab .any (opsOf Tryd.f13 13) = laws_FnPermitDays.T13 := by kernel_rfl
theorem laws_FnPermitDays.bits13 : waitsOk laws_FnPermitDays.T13.2 laws_FnPermitDays.B13 = true := by kernel_rfl
def laws_FnPermitDays.T32 : Bool × List (List Nat × List Nat) := (true, [([], []), ([0], [0]), ([], []), ([2, 1], [2]), ([1, 3], [1, 3]), ([4, 3], [4]), ([5], [5]), ([6, 5], [5, 6]), ([7, 5, 5], [5, 7]), ([8], [8]), ([8], [8]), ([10, 8], [8, 10]), ([11, 8], [8, 11]), ([9, 12, 8], [8, 9, 12]), ([13, 8], [8, 13]), ([14, 8], [8, 14]), ([8], [8]), ([15, 16, 8], [8, 15, 16]), ([17, 8, 8], [8, 17]), ([18], [18]), ([19, 18], [18, 19]), ([18], [18]), ([21, 18], [18, 21]), ([22, 18], [18, 22]), ([20, 23, 18], [18, 20, 23]), ([18, 24, 8], [8, 18, 24]), ([8, 25, 5], [5, 8, 25]), ([5, 26], [5, 26]), ([27, 18, 0, 1, 2, 3, 4, 5, 6, 7, 8, 9, 10, 11, 12, 13, 14, 15, 16, 17, 18, 19, 20, 21, 22, 23, 24, 25, 26, 27], [27])])
def laws_FnPermitDays.B32 : List Nat := [0, 1, 0, 7, 15, 31, 63, 127, 255, 511, 511, 1535, 3583, 8191, 16383, 32767, 511, 131071, 262143, 524287, 1048575, 524287, 2621439, 6815743, 16777215, 33554431, 67108863, 134217727, 268435455]
theorem laws_FnPermitDays.tab32 : rtab .any (opsOf Tryd.f13 32) = laws_FnPermitDays.T32 := by kernel_rfl
theorem laws_FnPermitDays.bits32 : waitsOk laws_FnPermitDays.T32.2 laws_FnPermitDays.B32 = true := by kernel_rfl
set_option maxHeartbeats 8000000 in
set_option maxRecDepth 100000 in
theorem laws_FnPermitDays.calls (k : Nat) (A0 : Option Addr) (c0 : Nat) (l0 : List Int) (r : Bool) (w : World) (hr0 : Kd.C (Kd.int .u8) w A0 l0.length l0) (hc0 : l0.length ≤ c0) (h : laws_FnPermitDays.f k l0 = some r) (hT : r = true) :
  Calls Tryd.prog 13 #[.slice A0 l0.length c0] w fun e w' => e = .returned (.bool r) ∧ Below w.heap.size w w' := by
 have hu26 := Tryd.underlying26
 have HR0 := Aside0.mk hr0
 have HC0 := Aside0.mk hc0
 clear hr0 hc0
 have HB := Aside0.mk (Below.refl w.heap.size w)
 have H := h
 clear h
 unfold laws_FnPermitDays.f at H
 replace H := bA H
 obtain ⟨t507, A2, H⟩ := H
 rcases Bool.eq_false_or_eq_true t507 with rfl | rfl
 ·replace H := iT rfl H
  obtain rfl := (Option.some.inj H)
  go_enter Tryd.func13, Tryd.ntmps13
  go_wp2_with (first | ((with_reducible refine gC 42 ?_); refine lA (some 42) Tryd.func42 (laws_rBig.calls _ _ l0 true _ ?side1 ?side2 A2.out) ?_; (case side1 => repeat (first | exact HR0.out | (with_reducible refine Kd.C_alloc ?_ _) | (with_reducible refine Kd.C_drewN ?_ _) | (with_reducible refine Kd.C_drew ?_))); (case side2 => exact HC0.out); rintro _ ⟨nd, rfl⟩))
  go_ret
  exact ⟨eB, (bW HB)⟩
 ·replace H := iF (by decide) H
  replace H := Option.bind_eq_some_iff.mp H
  obtain ⟨⟨t508, t509, t510, t511⟩, A40, H⟩ := H
  replace H : ((impl_FreeDays.f k t508 t509 t510 t511).bind fun bt514 => ((spec_FreeDays.f k t508 t509 t510 t511).bind fun bt518 => (if (bt514.2 != bt518.2) = true then (laws_FnPermitDays.j0 k l0 t508 t509 bt514.1 true) else ((laws_rTable.f k bt514.1 bt518.1).bind fun t522 => (laws_FnPermitDays.j0 k l0 t508 t509 bt514.1 (!t522)))))) = some r := H
  have A4 := Aside0.mk A40
  clear A40
  replace H := Option.bind_eq_some_iff.mp H
  obtain ⟨⟨t514, t515⟩, A50, H⟩ := H
  replace H : ((spec_FreeDays.f k t508 t509 t510 t511).bind fun bt518 => (if (t515 != bt518.2) = true then (laws_FnPermitDays.j0 k l0 t508 t509 t514 true) else ((laws_rTable.f k t514 bt518.1).bind fun t522 => (laws_FnPermitDays.j0 k l0 t508 t509 t514 (!t522))))) = some r := H
  have A5 := Aside0.mk A50
  clear A50
  replace H := Option.bind_eq_some_iff.mp H
  obtain ⟨⟨t518, t519⟩, A60, H⟩ := H
  replace H : (if (t515 != t519) = true then (laws_FnPermitDays.j0 k l0 t508 t509 t514 true) else ((laws_rTable.f k t514 t518).bind fun t522 => (laws_FnPermitDays.j0 k l0 t508 t509 t514 (!t522)))) = some r := H
  have A6 := Aside0.mk A60
  clear A60
  have HC7 := Aside0.mk H
  clear H
  go_enter Tryd.func13, Tryd.ntmps13
  go_upto_region 6 with (first | ((with_reducible refine gC 42 ?_); refine lA (some 42) Tryd.func42 (laws_rBig.calls _ _ l0 false _ ?side1 ?side2 A2.out) ?_; (case side1 => repeat (first | exact HR0.out | (with_reducible refine Kd.C_alloc ?_ _) | (with_reducible refine Kd.C_drewN ?_ _) | (with_reducible refine Kd.C_drew ?_))); (case side2 => exact HC0.out); rintro _ ⟨nd, rfl⟩) | ((with_reducible refine gate_callee (f := 48) rfl ?_); refine goesL_ (some 45) rfl rfl Tryd.func48 (by kernel_rfl) rfl #[.slice A0 l0.length c0] rfl argsB ?_; (with_reducible refine (spec_DrawFreeDays.calls k _ _ l0 t508 t509 t510 t511 _ ?side1 ?side2 A4.out).mono ?_); (case side1 => repeat (first | exact HR0.out | (with_reducible refine Kd.C_alloc ?_ _) | (with_reducible refine Kd.C_drewN ?_ _) | (with_reducible refine Kd.C_drew ?_))); (case side2 => exact HC0.out); rintro e w8 ⟨v512, rfl, ho0, hb⟩; refine ⟨_, rfl, ?_⟩; have HO513 := Aside0.mk (Kd.R_lower ho0 (below_size (bW HB))); replace HB := uB HB hb; (try clear hb); (try clear hk); (try clear ho0); obtain ⟨Ao9, co9, eo9⟩ := Kd.R_slice HO513.out; subst eo9) | ((with_reducible refine gate_callee (f := 38) rfl ?_); refine goesL_ (some 55) rfl rfl Tryd.func38 (by kernel_rfl) rfl #[.slice Ao9 t508.length co9, .string t509, .int .i64 t510, .int .i64 t511] rfl argsB ?_; (with_reducible refine (impl_FreeDays.calls k _ _ t508 t509 t510 t511 t514 t515 _ ?side1 ?side2 A5.out).mono ?_); (case side1 => repeat (first | exact (Kd.R_reads' HO513.out).2.2 | (with_reducible refine Kd.C_alloc ?_ _) | (with_reducible refine Kd.C_drewN ?_ _) | (with_reducible refine Kd.C_drew ?_))); (case side2 => exact (Kd.R_reads' HO513.out).2.1); rintro e w10 ⟨v516, rfl, ho0, hb⟩; refine ⟨_, rfl, ?_⟩; have HO517 := Aside0.mk (Kd.S_lower ho0 (below_size (bW HB))); replace HO513 := uR HO513 hb; replace HB := uB HB hb; (try clear hb); (try clear hk); (try clear ho0)) | ((with_reducible refine gate_callee (f := 37) rfl ?_); refine goesL_ (some 63) rfl rfl Tryd.func37 (by kernel_rfl) rfl #[.slice Ao9 t508.length co9, .string t509, .int .i64 t510, .int .i64 t511] rfl argsB ?_; (with_reducible refine (spec_FreeDays.calls k _ _ t508 t509 t510 t511 t518 t519 _ ?side1 ?side2 A6.out).mono ?_); (case side1 => repeat (first | exact (Kd.R_reads' HO513.out).2.2 | (with_reducible refine Kd.C_alloc ?_ _) | (with_reducible refine Kd.C_drewN ?_ _) | (with_reducible refine Kd.C_drew ?_))); (case side2 => exact (Kd.R_reads' HO513.out).2.1); rintro e w11 ⟨v520, rfl, ho0, hb⟩; refine ⟨_, rfl, ?_⟩; have HO521 := Aside0.mk (Kd.S_lower (Kd.S_new' ho0 (Kd.S_lt (by (with_reducible repeat (first | apply Kd.S_alloc | apply Kd.S_drewN | apply Kd.S_drew)); exact HO517.out))) (below_size (bW HB))); replace HO513 := uR HO513 hb; replace HO517 := Aside0.mk (Kd.S_elder' (by (with_reducible repeat (first | apply Kd.S_alloc | apply Kd.S_drewN | apply Kd.S_drew)); exact HO517.out) (Kd.S_base ho0) hb); replace HB := uB HB hb; (try clear hb); (try clear hk); (try clear ho0)))
  (try simp only [Act.put, List.setIfInBounds_toArray, List.set_cons_zero, List.set_cons_succ])
  go_cut [74] (fun v74 wc => ∃ (kq : Nat) (x74_6 : Bool), v74 = .bool x74_6 ∧ Aside0 (laws_FnPermitDays.j0 kq l0 t508 t509 t514 x74_6 = some r) ∧ Aside0 (kq ≤ k) ∧ Aside0 (Kd.R k26 26 wc w.heap.size (fun _ => True) (.slice Ao9 t508.length co9) t508) ∧ Aside0 (Kd.S (Kd.slice 3 (Kd.int .i64)) 68 wc w.heap.size (fun _ => True) v516 t514) ∧ Aside0 (Below w.heap.size w wc))
  case first =>
   have H := HC7.out
   clear HC7
   by_cases c12 : (t515 != t519) = true
   ·rw [if_pos c12] at H
    have c12b0 : (t515 != t519) = true := c12
    (try (have c12b1 : decide (t515 = t519) = false := by simpa using c12))
    (try (have c12b2 : (t515 == t519) = false := by simpa using c12))
    (try (have c12b3 : ¬ (t515 = t519) := by simpa using c12))
    clear c12
    (first | rw [c12b0] | (simp only [i64_w, i32_w]; rw [c12b0]) | skip)
    have H' := Aside0.mk H
    clear H
    go_wp2
    go_meet
    case rel => exact ⟨_, (true), rB, H', leB, ⟨upR HO513.out⟩, ⟨by (with_reducible repeat (first | apply Kd.S_alloc | apply Kd.S_drewN | apply Kd.S_drew)); exact Kd.S_mono HO517.out (fun _ hk => trivial)⟩, (aB HB)⟩
   ·rw [if_neg c12] at H
    have c12b0 : (t515 != t519) = false := by simpa using c12
    (try (have c12b1 : decide (t515 = t519) = true := by simpa using c12))
    (try (have c12b2 : (t515 == t519) = true := by simpa using c12))
    clear c12
    (first | rw [c12b0] | (simp only [i64_w, i32_w]; rw [c12b0]) | skip)
    replace H := bA H
    obtain ⟨t522, A13, H⟩ := H
    have H' := Aside0.mk H
    clear H
    obtain ⟨Ao14, co14, eo14⟩ := Kd.S_slice HO517.out
    subst eo14
    obtain ⟨Ao15, co15, eo15⟩ := Kd.S_slice HO521.out
    subst eo15
    go_wp2_with (first | (go_at_call 49; (with_reducible refine (laws_rTable.calls k _ _ t514 _ _ t518 t522 _ ?side1 ?side2 ?side3 ?side4 A13.out).mono ?_); (case side1 => repeat (first | exact (Kd.S_reads' HO517.out).2.2 | (with_reducible refine Kd.C_alloc ?_ _) | (with_reducible refine Kd.C_drewN ?_ _) | (with_reducible refine Kd.C_drew ?_))); (case side2 => exact (Kd.S_reads' HO517.out).2.1); (case side3 => repeat (first | exact (Kd.S_reads' HO521.out).2.2 | (with_reducible refine Kd.C_alloc ?_ _) | (with_reducible refine Kd.C_drewN ?_ _) | (with_reducible refine Kd.C_drew ?_))); (case side4 => exact (Kd.S_reads' HO521.out).2.1); rintro e w' ⟨rfl, ⟨nd, rfl⟩⟩))
    go_meet
    case rel => exact ⟨_, (!t522), rB, H', leB, ⟨upR HO513.out⟩, ⟨by (with_reducible repeat (first | apply Kd.S_alloc | apply Kd.S_drewN | apply Kd.S_drew)); exact Kd.S_mono HO517.out (fun _ hk => trivial)⟩, (aB HB)⟩
  case rest =>
   apply Classical.byContradiction
   intro hn_
   letI h_ : (0 : Nat) = 1 := (hn_ (by
    clear hn_
    clear HC7
    obtain ⟨kq, x74_6, rfl, HA, HJ6, HO_3, HO_7, HB⟩ := hcut
    cases kq with
    | zero => exact absurd HA.out (by simp [laws_FnPermitDays.j0])
    | succ kj6 =>
     have H := HA.out
     clear HA
     simp only [laws_FnPermitDays.j0] at H
     rcases Bool.eq_false_or_eq_true x74_6 with rfl | rfl
     ·replace H := iT rfl H
      exact absurd (Option.some.inj H) (by rw [hT]; decide)
     ·replace H := iF (by decide) H
      have H' := Aside0.mk H
      clear H
      go_wp2
      go_loopg [11] kj6 (fun kq v11 w' => ∃ (x11_2 : Int), v11 = .int .i64 x11_2 ∧ Aside0 (laws_FnPermitDays.l0 kq l0 t508 t509 t514 x11_2 = some r) ∧ Aside0 (kq ≤ kj6) ∧ Aside0 (Kd.R k26 26 w' w.heap.size (fun _ => True) (.slice Ao9 t508.length co9) t508) ∧ Aside0 (Kd.S (Kd.slice 3 (Kd.int .i64)) 68 w' w.heap.size (fun _ => True) v516 t514) ∧ Aside0 (Below w.heap.size w w'))
      case atStart => exact ⟨(0), rB, H', ⟨Nat.le_refl _⟩, ⟨upR HO_3.out⟩, ⟨by (with_reducible repeat (first | apply Kd.S_alloc | apply Kd.S_drewN | apply Kd.S_drew)); exact HO_7.out⟩, (aB HB)⟩
      case round =>
       apply Classical.byContradiction
       intro hn_
       letI h_ : (0 : Nat) = 1 := (hn_ (by
        clear hn_
        clear H'
        obtain ⟨x11_2, rfl, HA, HK2, HO_3, HO_7, HB⟩ := hrel
        cases gk with
        | zero => exact absurd HA.out (by simp [laws_FnPermitDays.l0])
        | succ k2 =>
         have H := HA.out
         clear HA
         simp only [laws_FnPermitDays.l0] at H
         replace H := ifD H
         rcases H with ⟨H, -, c17b0⟩ | ⟨H, -, c17b0⟩
         ·by_cases c18 : 0 ≤ x11_2
          ·rw [if_pos c18] at H
           have c18b0 : decide (0 ≤ x11_2) = true := decide_eq_true c18
           clear c18
           by_cases c19 : 0 < ((rd_L5 t514 x11_2).length : Int)
           ·rw [if_pos c19] at H
            have c19b0 : decide (0 < ((rd_L5 t514 x11_2).length : Int)) = true := decide_eq_true c19
            have c19b1 : decide (0 < (rd_L5 t514 x11_2).length) = true := decide_eq_true (by omega)
            clear c19
            replace H := Option.bind_eq_some_iff.mp H
            obtain ⟨⟨t525, t526⟩, A200, H⟩ := H
            replace H : (if 1 < ((rd_L5 t514 x11_2).length : Int) then ((impl_AllowedOn.f k2 t508 t509 (rd (rd_L5 t514 x11_2) 1)).bind fun bt529 => (if t526 = true then (some false) else (if bt529.2 = true then (some false) else (if (rd (rd_L5 t514 x11_2) 0) > (rd (rd_L5 t514 x11_2) 1) then (some false) else (if x11_2 > 0 then (if 0 ≤ (wrap64 (x11_2 - 1)) then (if (wrap64 (x11_2 - 1)) < (t514.length : Int) then (if 1 < ((rd_L5 t514 (wrap64 (x11_2 - 1))).length : Int) then (if (rd (rd_L5 t514 x11_2) 0) ≤ (wrap64 ((rd (rd_L5 t514 (wrap64 (x11_2 - 1))) 1) + 1)) then (some false) else (laws_FnPermitDays.l0 k2 l0 t508 t509 t514 (wrap64 (x11_2 + 1)))) else (none)) else (none)) else (none)) else (laws_FnPermitDays.l0 k2 l0 t508 t509 t514 (wrap64 (x11_2 + 1)))))))) else (none)) = some r := H
            have A20 := Aside0.mk A200
            clear A200
            by_cases c21 : 1 < ((rd_L5 t514 x11_2).length : Int)
            ·rw [if_pos c21] at H
             have c21b0 : decide (1 < ((rd_L5 t514 x11_2).length : Int)) = true := decide_eq_true c21
             have c21b1 : decide (1 < (rd_L5 t514 x11_2).length) = true := decide_eq_true (by omega)
             clear c21
             replace H := Option.bind_eq_some_iff.mp H
             obtain ⟨⟨t529, t530⟩, A220, H⟩ := H
             replace H : (if t526 = true then (some false) else (if t530 = true then (some false) else (if (rd (rd_L5 t514 x11_2) 0) > (rd (rd_L5 t514 x11_2) 1) then (some false) else (if x11_2 > 0 then (if 0 ≤ (wrap64 (x11_2 - 1)) then (if (wrap64 (x11_2 - 1)) < (t514.length : Int) then (if 1 < ((rd_L5 t514 (wrap64 (x11_2 - 1))).length : Int) then (if (rd (rd_L5 t514 x11_2) 0) ≤ (wrap64 ((rd (rd_L5 t514 (wrap64 (x11_2 - 1))) 1) + 1)) then (some false) else (laws_FnPermitDays.l0 k2 l0 t508 t509 t514 (wrap64 (x11_2 + 1)))) else (none)) else (none)) else (none)) else (laws_FnPermitDays.l0 k2 l0 t508 t509 t514 (wrap64 (x11_2 + 1))))))) = some r := H
             have A22 := Aside0.mk A220
             clear A220
             rcases Bool.eq_false_or_eq_true t526 with rfl | rfl
             ·replace H := iT rfl H
              exact absurd (Option.some.inj H) (by rw [hT]; decide)
             ·replace H := iF (by decide) H
              rcases Bool.eq_false_or_eq_true t530 with rfl | rfl
              ·replace H := iT rfl H
               exact absurd (Option.some.inj H) (by rw [hT]; decide)
              ·replace H := iF (by decide) H
               replace H := ifD H
               rcases H with ⟨H, -, c33b0⟩ | ⟨H, -, c33b0⟩
               ·exact absurd (Option.some.inj H) (by rw [hT]; decide)
               ·replace H := ifD H
                rcases H with ⟨H, -, c38b0⟩ | ⟨H, -, c38b0⟩
                ·obtain ⟨ji39, hji39⟩ : ∃ j_ : Int, (wrap64 (x11_2 - 1)) = j_ := ⟨_, rfl⟩
                 replace H : (if 0 ≤ (ji39) then (if (ji39) < (t514.length : Int) then (if 1 < ((rd_L5 t514 (ji39)).length : Int) then (if (rd (rd_L5 t514 x11_2) 0) ≤ (wrap64 ((rd (rd_L5 t514 (ji39)) 1) + 1)) then (some false) else (laws_FnPermitDays.l0 k2 l0 t508 t509 t514 (wrap64 (x11_2 + 1)))) else (none)) else (none)) else (none)) = some r := by first | (rw [hji39] at H; exact H) | (simp only [hji39] at H ⊢; exact H)
                 (try rw [hji39] at A20)
                 (try rw [hji39] at A22)
                 have hji39w : (IntKind.i64.wrap (x11_2 - 1)) = ji39 := (i64_w _).trans hji39
                 by_cases c40 : 0 ≤ (ji39)
                 ·rw [if_pos c40] at H
                  have c40b0 : decide (0 ≤ (ji39)) = true := decide_eq_true c40
                  clear c40
                  by_cases c41 : (ji39) < (t514.length : Int)
                  ·rw [if_pos c41] at H
                   have c41b0 : decide ((ji39) < (t514.length : Int)) = true := decide_eq_true c41
                   clear c41
                   by_cases c42 : 1 < ((rd_L5 t514 (ji39)).length : Int)
                   ·rw [if_pos c42] at H
                    have c42b0 : decide (1 < ((rd_L5 t514 (ji39)).length : Int)) = true := decide_eq_true c42
                    have c42b1 : decide (1 < (rd_L5 t514 (ji39)).length) = true := decide_eq_true (by omega)
                    clear c42
                    replace H := ifD H
                    rcases H with ⟨H, -, c43b0⟩ | ⟨H, -, c43b0⟩
                    ·exact absurd (Option.some.inj H) (by rw [hT]; decide)
                    ·have H' := Aside0.mk H
                     clear H
                     obtain ⟨Ao48, co48, eo48⟩ := Kd.S_slice HO_7.out
                     subst eo48
                     have p523 : 0 ≤ (x11_2 : Int) := of_decide_eq_true asmB
                     have q523 : x11_2 < (t514.length : Int) := of_decide_eq_true asmB
                     obtain ⟨ad523, A523_0, c523_0, e523, hx523_0, hl523_0, hi523_0⟩ := at_L5 (Kd.S_reads' HO_7.out).2.2 x11_2 p523 q523
                     cases e523
                     obtain ⟨ce523, hce523, hMe523, hcc523⟩ := Kd.S_get HO_7.out [] x11_2 p523 (by first | exact q523 | exact of_decide_eq_true asmB | (have e_ := (Kd.S_reads' HO_7.out).1; omega))
                     obtain ⟨ve523_0, rfl, ge523_0⟩ := hMe523
                     have hv523_0 := hcc523 0 _ rfl
                     rw [Nat.add_zero, show ((Kd.slice 3 (Kd.int .i64))).sz = 1 from rfl, Nat.mul_one] at hv523_0
                     replace hv523_0 := Option.some.inj (hv523_0.symm.trans hx523_0)
                     rw [hv523_0] at ge523_0
                     have HL523_0 := Aside0.mk (show Kd.R (Kd.int .i64) 3 _ _ _ _ (rd_L5 t514 x11_2) from ge523_0)
                     clear hv523_0 ge523_0
                     clear hcc523 hce523
                     have HR523_0 := Aside0.mk hi523_0
                     have HC523_0 := Aside0.mk hl523_0
                     clear hi523_0 hl523_0
                     replace p523 := eq_true p523
                     replace q523 := eq_true q523
                     have p524 : 0 ≤ (0 : Int) := (by omega)
                     have q524 : 0 < ((rd_L5 t514 x11_2).length : Int) := of_decide_eq_true asmB
                     obtain ⟨ad524, e524, hx524_0⟩ := Kd.at_int (by repeat (first | (with_reducible exact HR523_0.out) | (with_reducible refine Kd.C_alloc ?_ _) | (with_reducible refine Kd.C_drewN ?_ _) | (with_reducible refine Kd.C_drew ?_) | exact HR523_0.out)) 0 p524 q524
                     cases e524
                     have qi524 : (0 < (rd_L5 t514 x11_2).length) = True := eq_true (by omega)
                     (try rw [show ((0 : Int)).toNat = 0 from rfl] at hx524_0)
                     (try rw [Addr.add_zero'] at hx524_0)
                     replace p524 := eq_true p524
                     replace q524 := eq_true q524
                     try go_wp2_with (first | ((with_reducible refine gC 24 ?_); refine lA (some 90) Tryd.func24 (impl_AllowedOn.calls k2 _ _ t508 t509 (rd (rd_L5 t514 x11_2) 0) t525 false _ ?side1 ?side2 A20.out) ?_; (case side1 => repeat (first | exact (Kd.R_reads' HO_3.out).2.2 | (with_reducible refine Kd.C_alloc ?_ _) | (with_reducible refine Kd.C_drewN ?_ _) | (with_reducible refine Kd.C_drew ?_))); (case side2 => exact (Kd.R_reads' HO_3.out).2.1); intro w49 hb; replace HO_3 := uR HO_3 hb; replace HO_7 := Aside0.mk (Kd.S_below (by (with_reducible repeat (first | apply Kd.S_alloc | apply Kd.S_drewN | apply Kd.S_drew)); exact HO_7.out) hb); replace HL523_0 := Aside0.mk (Kd.R_below (upR HL523_0.out) hb); replace HR523_0 := Aside0.mk (Kd.C_below (by repeat (first | (with_reducible exact HR523_0.out) | (with_reducible refine Kd.C_alloc ?_ _) | (with_reducible refine Kd.C_drewN ?_ _) | (with_reducible refine Kd.C_drew ?_) | exact HR523_0.out)) hb); replace HB := uB HB hb; (try clear hb); (try clear hk); have p527 : 0 ≤ (x11_2 : Int) := of_decide_eq_true asmB; have q527 : x11_2 < (t514.length : Int) := of_decide_eq_true asmB; obtain ⟨ad527, A527_0, c527_0, e527, hx527_0, hl527_0, hi527_0⟩ := at_L5 (Kd.S_reads' HO_7.out).2.2 x11_2 p527 q527; obtain rfl : ad523 = ad527 := (by injection e527); obtain ⟨ce527, hce527, hMe527, hcc527⟩ := Kd.S_get HO_7.out [] x11_2 p527 (by first | exact q527 | exact of_decide_eq_true asmB | (have e_ := (Kd.S_reads' HO_7.out).1; omega)); obtain ⟨ve527_0, rfl, ge527_0⟩ := hMe527; have hv527_0 := hcc527 0 _ rfl; rw [Nat.add_zero, show ((Kd.slice 3 (Kd.int .i64))).sz = 1 from rfl, Nat.mul_one] at hv527_0; replace hv527_0 := Option.some.inj (hv527_0.symm.trans hx527_0); rw [hv527_0] at ge527_0; have HL527_0 := Aside0.mk (show Kd.R (Kd.int .i64) 3 _ _ _ _ (rd_L5 t514 x11_2) from ge527_0); clear hv527_0 ge527_0; clear hcc527 hce527; have HR527_0 := Aside0.mk hi527_0; have HC527_0 := Aside0.mk hl527_0; clear hi527_0 hl527_0; replace p527 := eq_true p527; replace q527 := eq_true q527; have p528 : 0 ≤ (1 : Int) := (by omega); have q528 : 1 < ((rd_L5 t514 x11_2).length : Int) := of_decide_eq_true asmB; obtain ⟨ad528, e528, hx528_0⟩ := Kd.at_int (by repeat (first | (with_reducible exact HR527_0.out) | (with_reducible refine Kd.C_alloc ?_ _) | (with_reducible refine Kd.C_drewN ?_ _) | (with_reducible refine Kd.C_drew ?_) | exact HR527_0.out)) 1 p528 q528; cases e528; (try simp only [show (1 : Int).toNat = 1 from rfl, Nat.reduceMul, Nat.reduceEqDiff, Go.Addr.add, ↓reduceIte] at hx528_0); have qi528 : (1 < (rd_L5 t514 x11_2).length) = True := eq_true (by omega); (try rw [show ((1 : Int)).toNat = 1 from rfl] at hx528_0); replace p528 := eq_true p528; replace q528 := eq_true q528) | ((with_reducible refine gC 24 ?_); refine lA (some 102) Tryd.func24 (impl_AllowedOn.calls k2 _ _ t508 t509 (rd (rd_L5 t514 x11_2) 1) t529 false _ ?side1 ?side2 A22.out) ?_; (case side1 => repeat (first | exact (Kd.R_reads' HO_3.out).2.2 | (with_reducible refine Kd.C_alloc ?_ _) | (with_reducible refine Kd.C_drewN ?_ _) | (with_reducible refine Kd.C_drew ?_))); (case side2 => exact (Kd.R_reads' HO_3.out).2.1); intro w50 hb; replace HO_3 := uR HO_3 hb; replace HO_7 := Aside0.mk (Kd.S_below (by (with_reducible repeat (first | apply Kd.S_alloc | apply Kd.S_drewN | apply Kd.S_drew)); exact HO_7.out) hb); replace HL523_0 := Aside0.mk (Kd.R_below (upR HL523_0.out) hb); replace HL527_0 := Aside0.mk (Kd.R_below (upR HL527_0.out) hb); replace HR523_0 := Aside0.mk (Kd.C_below (by repeat (first | (with_reducible exact HR523_0.out) | (with_reducible refine Kd.C_alloc ?_ _) | (with_reducible refine Kd.C_drewN ?_ _) | (with_reducible refine Kd.C_drew ?_) | exact HR523_0.out)) hb); replace HR527_0 := Aside0.mk (Kd.C_below (by repeat (first | (with_reducible exact HR527_0.out) | (with_reducible refine Kd.C_alloc ?_ _) | (with_reducible refine Kd.C_drewN ?_ _) | (with_reducible refine Kd.C_drew ?_) | exact HR527_0.out)) hb); replace HB := uB HB hb; (try clear hb); (try clear hk)))
                     replace HO_3 := Aside0.mk (Kd.R_drew HO_3.out)
                     replace HO_7 := Aside0.mk (Kd.S_drew HO_7.out)
                     replace HL523_0 := Aside0.mk (Kd.R_drew HL523_0.out)
                     replace HL527_0 := Aside0.mk (Kd.R_drew HL527_0.out)
                     replace HR523_0 := Aside0.mk (Kd.C_drew HR523_0.out)
                     replace HR527_0 := Aside0.mk (Kd.C_drew HR527_0.out)
                     replace HB := Aside0.mk (below_drew1 HB.out)
                     have p531 : 0 ≤ (x11_2 : Int) := of_decide_eq_true asmB
                     have q531 : x11_2 < (t514.length : Int) := of_decide_eq_true asmB
                     obtain ⟨ad531, A531_0, c531_0, e531, hx531_0, hl531_0, hi531_0⟩ := at_L5 (Kd.S_reads' HO_7.out).2.2 x11_2 p531 q531
                     obtain rfl : ad523 = ad531 := (by injection e531)
                     obtain ⟨ce531, hce531, hMe531, hcc531⟩ := Kd.S_get HO_7.out [] x11_2 p531 (by first | exact q531 | exact of_decide_eq_true asmB | (have e_ := (Kd.S_reads' HO_7.out).1; omega))
                     obtain ⟨ve531_0, rfl, ge531_0⟩ := hMe531
                     have hv531_0 := hcc531 0 _ rfl
                     rw [Nat.add_zero, show ((Kd.slice 3 (Kd.int .i64))).sz = 1 from rfl, Nat.mul_one] at hv531_0
                     replace hv531_0 := Option.some.inj (hv531_0.symm.trans hx531_0)
                     rw [hv531_0] at ge531_0
                     have HL531_0 := Aside0.mk (show Kd.R (Kd.int .i64) 3 _ _ _ _ (rd_L5 t514 x11_2) from ge531_0)
                     clear hv531_0 ge531_0
                     clear hcc531 hce531
                     have HR531_0 := Aside0.mk hi531_0
                     have HC531_0 := Aside0.mk hl531_0
                     clear hi531_0 hl531_0
                     replace p531 := eq_true p531
                     replace q531 := eq_true q531
                     have p532 : 0 ≤ (0 : Int) := (by omega)
                     have q532 : 0 < ((rd_L5 t514 x11_2).length : Int) := of_decide_eq_true asmB
                     obtain ⟨ad532, e532, hx532_0⟩ := Kd.at_int (by repeat (first | (with_reducible exact HR531_0.out) | (with_reducible refine Kd.C_alloc ?_ _) | (with_reducible refine Kd.C_drewN ?_ _) | (with_reducible refine Kd.C_drew ?_) | exact HR531_0.out)) 0 p532 q532
                     cases e532
                     have qi532 : (0 < (rd_L5 t514 x11_2).length) = True := eq_true (by omega)
                     (try rw [show ((0 : Int)).toNat = 0 from rfl] at hx532_0)
                     (try rw [Addr.add_zero'] at hx532_0)
                     replace p532 := eq_true p532
                     replace q532 := eq_true q532
                     have p533 : 0 ≤ (x11_2 : Int) := of_decide_eq_true asmB
                     have q533 : x11_2 < (t514.length : Int) := of_decide_eq_true asmB
                     obtain ⟨ad533, A533_0, c533_0, e533, hx533_0, hl533_0, hi533_0⟩ := at_L5 (Kd.S_reads' HO_7.out).2.2 x11_2 p533 q533
                     obtain rfl : ad523 = ad533 := (by injection e533)
                     obtain ⟨ce533, hce533, hMe533, hcc533⟩ := Kd.S_get HO_7.out [] x11_2 p533 (by first | exact q533 | exact of_decide_eq_true asmB | (have e_ := (Kd.S_reads' HO_7.out).1; omega))
                     obtain ⟨ve533_0, rfl, ge533_0⟩ := hMe533
                     have hv533_0 := hcc533 0 _ rfl
                     rw [Nat.add_zero, show ((Kd.slice 3 (Kd.int .i64))).sz = 1 from rfl, Nat.mul_one] at hv533_0
                     replace hv533_0 := Option.some.inj (hv533_0.symm.trans hx533_0)
                     rw [hv533_0] at ge533_0
                     have HL533_0 := Aside0.mk (show Kd.R (Kd.int .i64) 3 _ _ _ _ (rd_L5 t514 x11_2) from ge533_0)
                     clear hv533_0 ge533_0
                     clear hcc533 hce533
                     have HR533_0 := Aside0.mk hi533_0
                     have HC533_0 := Aside0.mk hl533_0
                     clear hi533_0 hl533_0
                     replace p533 := eq_true p533
                     replace q533 := eq_true q533
                     have ea_ := Option.some.inj (hx531_0.symm.trans hx533_0)
                     injection ea_ with ea_ en_ ec_
                     subst ea_
                     subst ec_
                     clear en_
                     have p534 : 0 ≤ (1 : Int) := (by omega)
                     have q534 : 1 < ((rd_L5 t514 x11_2).length : Int) := of_decide_eq_true asmB
                     obtain ⟨ad534, e534, hx534_0⟩ := Kd.at_int (by repeat (first | (with_reducible exact HR533_0.out) | (with_reducible refine Kd.C_alloc ?_ _) | (with_reducible refine Kd.C_drewN ?_ _) | (with_reducible refine Kd.C_drew ?_) | exact HR533_0.out)) 1 p534 q534
                     cases e534
                     (try simp only [show (1 : Int).toNat = 1 from rfl, Nat.reduceMul, Nat.reduceEqDiff, Go.Addr.add, ↓reduceIte] at hx534_0)
                     have qi534 : (1 < (rd_L5 t514 x11_2).length) = True := eq_true (by omega)
                     (try rw [show ((1 : Int)).toNat = 1 from rfl] at hx534_0)
                     replace p534 := eq_true p534
                     replace q534 := eq_true q534
                     have p535 : 0 ≤ (x11_2 : Int) := of_decide_eq_true asmB
                     have q535 : x11_2 < (t514.length : Int) := of_decide_eq_true asmB
                     obtain ⟨ad535, A535_0, c535_0, e535, hx535_0, hl535_0, hi535_0⟩ := at_L5 (Kd.S_reads' HO_7.out).2.2 x11_2 p535 q535
                     obtain rfl : ad523 = ad535 := (by injection e535)
                     obtain ⟨ce535, hce535, hMe535, hcc535⟩ := Kd.S_get HO_7.out [] x11_2 p535 (by first | exact q535 | exact of_decide_eq_true asmB | (have e_ := (Kd.S_reads' HO_7.out).1; omega))
                     obtain ⟨ve535_0, rfl, ge535_0⟩ := hMe535
                     have hv535_0 := hcc535 0 _ rfl
                     rw [Nat.add_zero, show ((Kd.slice 3 (Kd.int .i64))).sz = 1 from rfl, Nat.mul_one] at hv535_0
                     replace hv535_0 := Option.some.inj (hv535_0.symm.trans hx535_0)
                     rw [hv535_0] at ge535_0
                     have HL535_0 := Aside0.mk (show Kd.R (Kd.int .i64) 3 _ _ _ _ (rd_L5 t514 x11_2) from ge535_0)
                     clear hv535_0 ge535_0
                     clear hcc535 hce535
                     have HR535_0 := Aside0.mk hi535_0
                     have HC535_0 := Aside0.mk hl535_0
                     clear hi535_0 hl535_0
                     replace p535 := eq_true p535
                     replace q535 := eq_true q535
                     have ea_ := Option.some.inj (hx531_0.symm.trans hx535_0)
                     injection ea_ with ea_ en_ ec_
                     subst ea_
                     subst ec_
                     clear en_
                     have p536 : 0 ≤ (0 : Int) := (by omega)
                     have q536 : 0 < ((rd_L5 t514 x11_2).length : Int) := of_decide_eq_true asmB
                     obtain ⟨ad536, e536, hx536_0⟩ := Kd.at_int (by repeat (first | (with_reducible exact HR535_0.out) | (with_reducible refine Kd.C_alloc ?_ _) | (with_reducible refine Kd.C_drewN ?_ _) | (with_reducible refine Kd.C_drew ?_) | exact HR535_0.out)) 0 p536 q536
                     cases e536
                     have qi536 : (0 < (rd_L5 t514 x11_2).length) = True := eq_true (by omega)
                     (try rw [show ((0 : Int)).toNat = 0 from rfl] at hx536_0)
                     (try rw [Addr.add_zero'] at hx536_0)
                     replace p536 := eq_true p536
                     replace q536 := eq_true q536
                     have p537 : 0 ≤ ((ji39) : Int) := of_decide_eq_true asmB
                     have q537 : (ji39) < (t514.length : Int) := of_decide_eq_true asmB
                     obtain ⟨ad537, A537_0, c537_0, e537, hx537_0, hl537_0, hi537_0⟩ := at_L5 (Kd.S_reads' HO_7.out).2.2 (ji39) p537 q537
                     obtain rfl : ad523 = ad537 := (by injection e537)
                     obtain ⟨ce537, hce537, hMe537, hcc537⟩ := Kd.S_get HO_7.out [] (ji39) p537 (by first | exact q537 | exact of_decide_eq_true asmB | (have e_ := (Kd.S_reads' HO_7.out).1; omega))
                     obtain ⟨ve537_0, rfl, ge537_0⟩ := hMe537
                     have hv537_0 := hcc537 0 _ rfl
                     rw [Nat.add_zero, show ((Kd.slice 3 (Kd.int .i64))).sz = 1 from rfl, Nat.mul_one] at hv537_0
                     replace hv537_0 := Option.some.inj (hv537_0.symm.trans hx537_0)
                     rw [hv537_0] at ge537_0
                     have HL537_0 := Aside0.mk (show Kd.R (Kd.int .i64) 3 _ _ _ _ (rd_L5 t514 (ji39)) from ge537_0)
                     clear hv537_0 ge537_0
                     clear hcc537 hce537
                     have HR537_0 := Aside0.mk hi537_0
                     have HC537_0 := Aside0.mk hl537_0
                     clear hi537_0 hl537_0
                     replace p537 := eq_true p537
                     replace q537 := eq_true q537
                     have p538 : 0 ≤ (1 : Int) := (by omega)
                     have q538 : 1 < ((rd_L5 t514 (ji39)).length : Int) := of_decide_eq_true asmB
                     obtain ⟨ad538, e538, hx538_0⟩ := Kd.at_int (by repeat (first | (with_reducible exact HR537_0.out) | (with_reducible refine Kd.C_alloc ?_ _) | (with_reducible refine Kd.C_drewN ?_ _) | (with_reducible refine Kd.C_drew ?_) | exact HR537_0.out)) 1 p538 q538
                     cases e538
                     (try simp only [show (1 : Int).toNat = 1 from rfl, Nat.reduceMul, Nat.reduceEqDiff, Go.Addr.add, ↓reduceIte] at hx538_0)
                     have qi538 : (1 < (rd_L5 t514 (ji39)).length) = True := eq_true (by omega)
                     (try rw [show ((1 : Int)).toNat = 1 from rfl] at hx538_0)
                     replace p538 := eq_true p538
                     replace q538 := eq_true q538
                     refine sA (n := 40) (S := fun w' => w'.cell? (ad523.add (x11_2).toNat) = some (.slice (some ad532) (rd_L5 t514 x11_2).length c531_0) ∧ w'.cell? ad532 = some (.int .i64 (rd (rd_L5 t514 x11_2) 0)) ∧ w'.cell? (ad523.add (x11_2).toNat) = some (.slice (some ad532) (rd_L5 t514 x11_2).length c531_0) ∧ w'.cell? ⟨ad532.block, ad532.off + 1, none⟩ = some (.int .i64 (rd (rd_L5 t514 x11_2) 1)) ∧ w'.cell? (ad523.add (x11_2).toNat) = some (.slice (some ad532) (rd_L5 t514 x11_2).length c531_0) ∧ w'.cell? ad532 = some (.int .i64 (rd (rd_L5 t514 x11_2) 0)) ∧ w'.cell? (ad523.add ((ji39)).toNat) = some (.slice (some ad538) (rd_L5 t514 (ji39)).length c537_0) ∧ w'.cell? ⟨ad538.block, ad538.off + 1, none⟩ = some (.int .i64 (rd (rd_L5 t514 (ji39)) 1))) (ds := []) laws_FnPermitDays.tab13 laws_FnPermitDays.bits13 #[false, false, false, false, false, false, false, false, false, false, false, false, false, false, false, false, false, false, false, false, false, false, false, false, false, false, false, false, false, false, false, false, false, false, false, false, false, false, false, false] ⟨hx531_0, hx532_0, hx533_0, hx534_0, hx535_0, hx536_0, hx537_0, hx538_0⟩ fun hHeld HT_ HW_ => ?_
                     generalize w50.drew = w51 at HO_3 HO_7 HL523_0 HL527_0 HR523_0 HR527_0 HB HL531_0 HL533_0 HL535_0 HL537_0 HR531_0 HR533_0 HR535_0 HR537_0 hx531_0 hx532_0 hx533_0 hx534_0 hx535_0 hx536_0 hx537_0 hx538_0 hHeld ⊢
                     refine pA 0 105 HT_ ?_
                     refine pA 1 106 HT_ ?_
                     refine pA 2 107 HT_ ?_
                     refine pA 3 108 HT_ ?_
                     refine pA 4 109 HT_ ?_
                     refine pA 5 110 HT_ ?_
                     refine pA 6 111 HT_ ?_
                     refine pA 7 112 HT_ ?_
                     refine pA 11 116 HT_ ?_
                     refine pA 12 117 HT_ ?_
                     refine pA 13 118 HT_ ?_
                     refine tA 8 113 HT_ HW_ hHeld ?_
                     refine pA 9 114 HT_ ?_
                     refine tA 10 115 HT_ HW_ hHeld ?_
                     refine tA 14 119 HT_ HW_ hHeld ?_
                     refine pA 15 120 HT_ ?_
                     refine tA 16 121 HT_ HW_ hHeld ?_
                     refine pA 17 122 HT_ ?_
                     refine pA 18 123 HT_ ?_
                     refine pA 19 124 HT_ ?_
                     refine pA 20 125 HT_ ?_
                     refine pA 21 126 HT_ ?_
                     refine pA 22 127 HT_ ?_
                     refine pA 23 128 HT_ ?_
                     refine pA 24 129 HT_ ?_
                     refine pA 25 130 HT_ ?_
                     refine pA 29 134 HT_ ?_
                     refine pA 30 135 HT_ ?_
                     refine pA 31 136 HT_ ?_
                     refine pA 32 137 HT_ ?_
                     refine tA 26 131 HT_ HW_ hHeld ?_
                     refine pA 27 132 HT_ ?_
                     refine tA 28 133 HT_ HW_ hHeld ?_
                     refine tA 33 138 HT_ HW_ hHeld ?_
                     refine pA 34 139 HT_ ?_
                     refine tA 35 140 HT_ HW_ hHeld ?_
                     refine pA 36 141 HT_ ?_
                     refine pA 37 142 HT_ ?_
                     refine pA 38 143 HT_ ?_
                     refine pA 39 144 HT_ ?_
                     refine done_ (done_of HT_.out (by kernel_rfl)) ?_
                     try go_wp2
                     go_roundg k2
                     case measure => have := HJ6.out; have := HK2.out; omega
                     case rel => exact ⟨(wrap64 (x11_2 + 1)), rB, H', ⟨by have := HJ6.out; have := HK2.out; omega⟩, ⟨upR HO_3.out⟩, ⟨by (with_reducible repeat (first | apply Kd.S_alloc | apply Kd.S_drewN | apply Kd.S_drew)); exact HO_7.out⟩, (aB HB)⟩
                   ·rw [if_neg c42] at H
                    exact absurd H (by simp)
                  ·rw [if_neg c41] at H
                   exact absurd H (by simp)
                 ·rw [if_neg c40] at H
                  exact absurd H (by simp)
                ·have H' := Aside0.mk H
                 clear H
                 obtain ⟨Ao52, co52, eo52⟩ := Kd.S_slice HO_7.out
                 subst eo52
                 have p523 : 0 ≤ (x11_2 : Int) := of_decide_eq_true asmB
                 have q523 : x11_2 < (t514.length : Int) := of_decide_eq_true asmB
                 obtain ⟨ad523, A523_0, c523_0, e523, hx523_0, hl523_0, hi523_0⟩ := at_L5 (Kd.S_reads' HO_7.out).2.2 x11_2 p523 q523
                 cases e523
                 obtain ⟨ce523, hce523, hMe523, hcc523⟩ := Kd.S_get HO_7.out [] x11_2 p523 (by first | exact q523 | exact of_decide_eq_true asmB | (have e_ := (Kd.S_reads' HO_7.out).1; omega))
                 obtain ⟨ve523_0, rfl, ge523_0⟩ := hMe523
                 have hv523_0 := hcc523 0 _ rfl
                 rw [Nat.add_zero, show ((Kd.slice 3 (Kd.int .i64))).sz = 1 from rfl, Nat.mul_one] at hv523_0
                 replace hv523_0 := Option.some.inj (hv523_0.symm.trans hx523_0)
                 rw [hv523_0] at ge523_0
                 have HL523_0 := Aside0.mk (show Kd.R (Kd.int .i64) 3 _ _ _ _ (rd_L5 t514 x11_2) from ge523_0)
                 clear hv523_0 ge523_0
                 clear hcc523 hce523
                 have HR523_0 := Aside0.mk hi523_0
                 have HC523_0 := Aside0.mk hl523_0
                 clear hi523_0 hl523_0
                 replace p523 := eq_true p523
                 replace q523 := eq_true q523
                 have p524 : 0 ≤ (0 : Int) := (by omega)
                 have q524 : 0 < ((rd_L5 t514 x11_2).length : Int) := of_decide_eq_true asmB
                 obtain ⟨ad524, e524, hx524_0⟩ := Kd.at_int (by repeat (first | (with_reducible exact HR523_0.out) | (with_reducible refine Kd.C_alloc ?_ _) | (with_reducible refine Kd.C_drewN ?_ _) | (with_reducible refine Kd.C_drew ?_) | exact HR523_0.out)) 0 p524 q524
                 cases e524
                 have qi524 : (0 < (rd_L5 t514 x11_2).length) = True := eq_true (by omega)
                 (try rw [show ((0 : Int)).toNat = 0 from rfl] at hx524_0)
                 (try rw [Addr.add_zero'] at hx524_0)
                 replace p524 := eq_true p524
                 replace q524 := eq_true q524
                 try go_wp2_with (first | ((with_reducible refine gC 24 ?_); refine lA (some 90) Tryd.func24 (impl_AllowedOn.calls k2 _ _ t508 t509 (rd (rd_L5 t514 x11_2) 0) t525 false _ ?side1 ?side2 A20.out) ?_; (case side1 => repeat (first | exact (Kd.R_reads' HO_3.out).2.2 | (with_reducible refine Kd.C_alloc ?_ _) | (with_reducible refine Kd.C_drewN ?_ _) | (with_reducible refine Kd.C_drew ?_))); (case side2 => exact (Kd.R_reads' HO_3.out).2.1); intro w53 hb; replace HO_3 := uR HO_3 hb; replace HO_7 := Aside0.mk (Kd.S_below (by (with_reducible repeat (first | apply Kd.S_alloc | apply Kd.S_drewN | apply Kd.S_drew)); exact HO_7.out) hb); replace HL523_0 := Aside0.mk (Kd.R_below (upR HL523_0.out) hb); replace HR523_0 := Aside0.mk (Kd.C_below (by repeat (first | (with_reducible exact HR523_0.out) | (with_reducible refine Kd.C_alloc ?_ _) | (with_reducible refine Kd.C_drewN ?_ _) | (with_reducible refine Kd.C_drew ?_) | exact HR523_0.out)) hb); replace HB := uB HB hb; (try clear hb); (try clear hk); have p527 : 0 ≤ (x11_2 : Int) := of_decide_eq_true asmB; have q527 : x11_2 < (t514.length : Int) := of_decide_eq_true asmB; obtain ⟨ad527, A527_0, c527_0, e527, hx527_0, hl527_0, hi527_0⟩ := at_L5 (Kd.S_reads' HO_7.out).2.2 x11_2 p527 q527; obtain rfl : ad523 = ad527 := (by injection e527); obtain ⟨ce527, hce527, hMe527, hcc527⟩ := Kd.S_get HO_7.out [] x11_2 p527 (by first | exact q527 | exact of_decide_eq_true asmB | (have e_ := (Kd.S_reads' HO_7.out).1; omega)); obtain ⟨ve527_0, rfl, ge527_0⟩ := hMe527; have hv527_0 := hcc527 0 _ rfl; rw [Nat.add_zero, show ((Kd.slice 3 (Kd.int .i64))).sz = 1 from rfl, Nat.mul_one] at hv527_0; replace hv527_0 := Option.some.inj (hv527_0.symm.trans hx527_0); rw [hv527_0] at ge527_0; have HL527_0 := Aside0.mk (show Kd.R (Kd.int .i64) 3 _ _ _ _ (rd_L5 t514 x11_2) from ge527_0); clear hv527_0 ge527_0; clear hcc527 hce527; have HR527_0 := Aside0.mk hi527_0; have HC527_0 := Aside0.mk hl527_0; clear hi527_0 hl527_0; replace p527 := eq_true p527; replace q527 := eq_true q527; have p528 : 0 ≤ (1 : Int) := (by omega); have q528 : 1 < ((rd_L5 t514 x11_2).length : Int) := of_decide_eq_true asmB; obtain ⟨ad528, e528, hx528_0⟩ := Kd.at_int (by repeat (first | (with_reducible exact HR527_0.out) | (with_reducible refine Kd.C_alloc ?_ _) | (with_reducible refine Kd.C_drewN ?_ _) | (with_reducible refine Kd.C_drew ?_) | exact HR527_0.out)) 1 p528 q528; cases e528; (try simp only [show (1 : Int).toNat = 1 from rfl, Nat.reduceMul, Nat.reduceEqDiff, Go.Addr.add, ↓reduceIte] at hx528_0); have qi528 : (1 < (rd_L5 t514 x11_2).length) = True := eq_true (by omega); (try rw [show ((1 : Int)).toNat = 1 from rfl] at hx528_0); replace p528 := eq_true p528; replace q528 := eq_true q528) | ((with_reducible refine gC 24 ?_); refine lA (some 102) Tryd.func24 (impl_AllowedOn.calls k2 _ _ t508 t509 (rd (rd_L5 t514 x11_2) 1) t529 false _ ?side1 ?side2 A22.out) ?_; (case side1 => repeat (first | exact (Kd.R_reads' HO_3.out).2.2 | (with_reducible refine Kd.C_alloc ?_ _) | (with_reducible refine Kd.C_drewN ?_ _) | (with_reducible refine Kd.C_drew ?_))); (case side2 => exact (Kd.R_reads' HO_3.out).2.1); intro w54 hb; replace HO_3 := uR HO_3 hb; replace HO_7 := Aside0.mk (Kd.S_below (by (with_reducible repeat (first | apply Kd.S_alloc | apply Kd.S_drewN | apply Kd.S_drew)); exact HO_7.out) hb); replace HL523_0 := Aside0.mk (Kd.R_below (upR HL523_0.out) hb); replace HL527_0 := Aside0.mk (Kd.R_below (upR HL527_0.out) hb); replace HR523_0 := Aside0.mk (Kd.C_below (by repeat (first | (with_reducible exact HR523_0.out) | (with_reducible refine Kd.C_alloc ?_ _) | (with_reducible refine Kd.C_drewN ?_ _) | (with_reducible refine Kd.C_drew ?_) | exact HR523_0.out)) hb); replace HR527_0 := Aside0.mk (Kd.C_below (by repeat (first | (with_reducible exact HR527_0.out) | (with_reducible refine Kd.C_alloc ?_ _) | (with_reducible refine Kd.C_drewN ?_ _) | (with_reducible refine Kd.C_drew ?_) | exact HR527_0.out)) hb); replace HB := uB HB hb; (try clear hb); (try clear hk)))
                 replace HO_3 := Aside0.mk (Kd.R_drew HO_3.out)
                 replace HO_7 := Aside0.mk (Kd.S_drew HO_7.out)
                 replace HL523_0 := Aside0.mk (Kd.R_drew HL523_0.out)
                 replace HL527_0 := Aside0.mk (Kd.R_drew HL527_0.out)
                 replace HR523_0 := Aside0.mk (Kd.C_drew HR523_0.out)
                 replace HR527_0 := Aside0.mk (Kd.C_drew HR527_0.out)
                 replace HB := Aside0.mk (below_drew1 HB.out)
                 have p531 : 0 ≤ (x11_2 : Int) := of_decide_eq_true asmB
                 have q531 : x11_2 < (t514.length : Int) := of_decide_eq_true asmB
                 obtain ⟨ad531, A531_0, c531_0, e531, hx531_0, hl531_0, hi531_0⟩ := at_L5 (Kd.S_reads' HO_7.out).2.2 x11_2 p531 q531
                 obtain rfl : ad523 = ad531 := (by injection e531)
                 obtain ⟨ce531, hce531, hMe531, hcc531⟩ := Kd.S_get HO_7.out [] x11_2 p531 (by first | exact q531 | exact of_decide_eq_true asmB | (have e_ := (Kd.S_reads' HO_7.out).1; omega))
                 obtain ⟨ve531_0, rfl, ge531_0⟩ := hMe531
                 have hv531_0 := hcc531 0 _ rfl
                 rw [Nat.add_zero, show ((Kd.slice 3 (Kd.int .i64))).sz = 1 from rfl, Nat.mul_one] at hv531_0
                 replace hv531_0 := Option.some.inj (hv531_0.symm.trans hx531_0)
                 rw [hv531_0] at ge531_0
                 have HL531_0 := Aside0.mk (show Kd.R (Kd.int .i64) 3 _ _ _ _ (rd_L5 t514 x11_2) from ge531_0)
                 clear hv531_0 ge531_0
                 clear hcc531 hce531
                 have HR531_0 := Aside0.mk hi531_0
                 have HC531_0 := Aside0.mk hl531_0
                 clear hi531_0 hl531_0
                 replace p531 := eq_true p531
                 replace q531 := eq_true q531
                 have p532 : 0 ≤ (0 : Int) := (by omega)
                 have q532 : 0 < ((rd_L5 t514 x11_2).length : Int) := of_decide_eq_true asmB
                 obtain ⟨ad532, e532, hx532_0⟩ := Kd.at_int (by repeat (first | (with_reducible exact HR531_0.out) | (with_reducible refine Kd.C_alloc ?_ _) | (with_reducible refine Kd.C_drewN ?_ _) | (with_reducible refine Kd.C_drew ?_) | exact HR531_0.out)) 0 p532 q532
                 cases e532
                 have qi532 : (0 < (rd_L5 t514 x11_2).length) = True := eq_true (by omega)
                 (try rw [show ((0 : Int)).toNat = 0 from rfl] at hx532_0)
                 (try rw [Addr.add_zero'] at hx532_0)
                 replace p532 := eq_true p532
                 replace q532 := eq_true q532
                 have p533 : 0 ≤ (x11_2 : Int) := of_decide_eq_true asmB
                 have q533 : x11_2 < (t514.length : Int) := of_decide_eq_true asmB
                 obtain ⟨ad533, A533_0, c533_0, e533, hx533_0, hl533_0, hi533_0⟩ := at_L5 (Kd.S_reads' HO_7.out).2.2 x11_2 p533 q533
                 obtain rfl : ad523 = ad533 := (by injection e533)
                 obtain ⟨ce533, hce533, hMe533, hcc533⟩ := Kd.S_get HO_7.out [] x11_2 p533 (by first | exact q533 | exact of_decide_eq_true asmB | (have e_ := (Kd.S_reads' HO_7.out).1; omega))
                 obtain ⟨ve533_0, rfl, ge533_0⟩ := hMe533
                 have hv533_0 := hcc533 0 _ rfl
                 rw [Nat.add_zero, show ((Kd.slice 3 (Kd.int .i64))).sz = 1 from rfl, Nat.mul_one] at hv533_0
                 replace hv533_0 := Option.some.inj (hv533_0.symm.trans hx533_0)
                 rw [hv533_0] at ge533_0
                 have HL533_0 := Aside0.mk (show Kd.R (Kd.int .i64) 3 _ _ _ _ (rd_L5 t514 x11_2) from ge533_0)
                 clear hv533_0 ge533_0
                 clear hcc533 hce533
                 have HR533_0 := Aside0.mk hi533_0
                 have HC533_0 := Aside0.mk hl533_0
                 clear hi533_0 hl533_0
                 replace p533 := eq_true p533
                 replace q533 := eq_true q533
                 have ea_ := Option.some.inj (hx531_0.symm.trans hx533_0)
                 injection ea_ with ea_ en_ ec_
                 subst ea_
                 subst ec_
                 clear en_
                 have p534 : 0 ≤ (1 : Int) := (by omega)
                 have q534 : 1 < ((rd_L5 t514 x11_2).length : Int) := of_decide_eq_true asmB
                 obtain ⟨ad534, e534, hx534_0⟩ := Kd.at_int (by repeat (first | (with_reducible exact HR533_0.out) | (with_reducible refine Kd.C_alloc ?_ _) | (with_reducible refine Kd.C_drewN ?_ _) | (with_reducible refine Kd.C_drew ?_) | exact HR533_0.out)) 1 p534 q534
                 cases e534
                 (try simp only [show (1 : Int).toNat = 1 from rfl, Nat.reduceMul, Nat.reduceEqDiff, Go.Addr.add, ↓reduceIte] at hx534_0)
                 have qi534 : (1 < (rd_L5 t514 x11_2).length) = True := eq_true (by omega)
                 (try rw [show ((1 : Int)).toNat = 1 from rfl] at hx534_0)
                 replace p534 := eq_true p534
                 replace q534 := eq_true q534
                 refine sA (n := 40) (S := fun w' => w'.cell? (ad523.add (x11_2).toNat) = some (.slice (some ad532) (rd_L5 t514 x11_2).length c531_0) ∧ w'.cell? ad532 = some (.int .i64 (rd (rd_L5 t514 x11_2) 0)) ∧ w'.cell? (ad523.add (x11_2).toNat) = some (.slice (some ad532) (rd_L5 t514 x11_2).length c531_0) ∧ w'.cell? ⟨ad532.block, ad532.off + 1, none⟩ = some (.int .i64 (rd (rd_L5 t514 x11_2) 1))) (ds := []) laws_FnPermitDays.tab13 laws_FnPermitDays.bits13 #[false, false, false, false, false, false, false, false, false, false, false, false, false, false, false, false, false, false, false, false, false, false, false, false, false, false, false, false, false, false, false, false, false, false, false, false, false, false, false, false] ⟨hx531_0, hx532_0, hx533_0, hx534_0⟩ fun hHeld HT_ HW_ => ?_
                 generalize w54.drew = w55 at HO_3 HO_7 HL523_0 HL527_0 HR523_0 HR527_0 HB HL531_0 HL533_0 HR531_0 HR533_0 hx531_0 hx532_0 hx533_0 hx534_0 hHeld ⊢
                 refine pA 0 105 HT_ ?_
                 refine pA 1 106 HT_ ?_
                 refine pA 2 107 HT_ ?_
                 refine pA 3 108 HT_ ?_
                 refine pA 4 109 HT_ ?_
                 refine pA 5 110 HT_ ?_
                 refine pA 6 111 HT_ ?_
                 refine pA 7 112 HT_ ?_
                 refine pA 11 116 HT_ ?_
                 refine pA 12 117 HT_ ?_
                 refine pA 13 118 HT_ ?_
                 refine tA 8 113 HT_ HW_ hHeld ?_
                 refine pA 9 114 HT_ ?_
                 refine tA 10 115 HT_ HW_ hHeld ?_
                 refine tA 14 119 HT_ HW_ hHeld ?_
                 refine pA 15 120 HT_ ?_
                 refine tA 16 121 HT_ HW_ hHeld ?_
                 refine pA 17 122 HT_ ?_
                 refine pA 18 123 HT_ ?_
                 refine pA 19 124 HT_ ?_
                 refine pA 20 125 HT_ ?_
                 refine pA 21 126 HT_ ?_
                 refine pA 22 127 HT_ ?_
                 refine pU 23 128 HT_ ?_
                 refine pU 24 129 HT_ ?_
                 refine pU 25 130 HT_ ?_
                 refine pU 26 131 HT_ ?_
                 refine pU 27 132 HT_ ?_
                 refine pU 28 133 HT_ ?_
                 refine pU 29 134 HT_ ?_
                 refine pU 30 135 HT_ ?_
                 refine pU 31 136 HT_ ?_
                 refine pU 32 137 HT_ ?_
                 refine pU 33 138 HT_ ?_
                 refine pU 34 139 HT_ ?_
                 refine pU 35 140 HT_ ?_
                 refine pU 36 141 HT_ ?_
                 refine pU 37 142 HT_ ?_
                 refine pA 38 143 HT_ ?_
                 refine pA 39 144 HT_ ?_
                 refine done_ (done_of HT_.out (by kernel_rfl)) ?_
                 try go_wp2
                 go_roundg k2
                 case measure => have := HJ6.out; have := HK2.out; omega
                 case rel => exact ⟨(wrap64 (x11_2 + 1)), rB, H', ⟨by have := HJ6.out; have := HK2.out; omega⟩, ⟨upR HO_3.out⟩, ⟨by (with_reducible repeat (first | apply Kd.S_alloc | apply Kd.S_drewN | apply Kd.S_drew)); exact HO_7.out⟩, (aB HB)⟩
            ·rw [if_neg c21] at H
             exact absurd H (by simp)
           ·rw [if_neg c19] at H
            exact absurd H (by simp)
          ·rw [if_neg c18] at H
           exact absurd H (by simp)
         ·replace H := Option.bind_eq_some_iff.mp H
          obtain ⟨⟨t539, t540, t541, t542⟩, A560, H⟩ := H
          replace H : ((impl_FirstSlot.f k2 t539 t540 t541 t542).bind fun bt545 => ((spec_FirstSlot.f k2 t539 t540 t541 t542).bind fun bt547 => (if bt545.1 = bt547.1 then (laws_FnPermitDays.j2 k2 l0 t539 t540 t542 bt545.1 bt545.2 (bt545.2 != bt547.2)) else (laws_FnPermitDays.j2 k2 l0 t539 t540 t542 bt545.1 bt545.2 true)))) = some r := H
          have A56 := Aside0.mk A560
          clear A560
          replace H := Option.bind_eq_some_iff.mp H
          obtain ⟨⟨t545, t546⟩, A570, H⟩ := H
          replace H : ((spec_FirstSlot.f k2 t539 t540 t541 t542).bind fun bt547 => (if t545 = bt547.1 then (laws_FnPermitDays.j2 k2 l0 t539 t540 t542 t545 t546 (t546 != bt547.2)) else (laws_FnPermitDays.j2 k2 l0 t539 t540 t542 t545 t546 true))) = some r := H
          have A57 := Aside0.mk A570
          clear A570
          replace H := Option.bind_eq_some_iff.mp H
          obtain ⟨⟨t547, t548⟩, A580, H⟩ := H
          replace H : (if t545 = t547 then (laws_FnPermitDays.j2 k2 l0 t539 t540 t542 t545 t546 (t546 != t548)) else (laws_FnPermitDays.j2 k2 l0 t539 t540 t542 t545 t546 true)) = some r := H
          have A58 := Aside0.mk A580
          clear A580
          have HC59 := Aside0.mk H
          clear H
          obtain ⟨Ao60, co60, eo60⟩ := Kd.S_slice HO_7.out
          subst eo60
          go_upto_region 18 with (first | ((with_reducible refine gate_callee (f := 50) rfl ?_); refine goesL_ (some 147) rfl rfl Tryd.func50 (by kernel_rfl) rfl #[.slice A0 l0.length c0] rfl argsB ?_; (with_reducible refine (spec_DrawFirstSlot.calls k2 _ _ l0 t539 t540 t541 t542 _ ?side1 ?side2 A56.out).mono ?_); (case side1 => repeat (first | exact (Kd.C_below HR0.out HB.out) | (with_reducible refine Kd.C_alloc ?_ _) | (with_reducible refine Kd.C_drewN ?_ _) | (with_reducible refine Kd.C_drew ?_))); (case side2 => exact HC0.out); rintro e w61 ⟨v543, rfl, ho0, hb⟩; refine ⟨_, rfl, ?_⟩; have HO544 := Aside0.mk (Kd.R_lower (Kd.R_new' ho0 (Kd.R_lt (upR HO_3.out))) (below_size (bW HB))); replace HO_3 := Aside0.mk (Kd.R_elder' (upR HO_3.out) (Kd.R_base ho0) hb); replace HO_7 := Aside0.mk (Kd.S_below (by (with_reducible repeat (first | apply Kd.S_alloc | apply Kd.S_drewN | apply Kd.S_drew)); exact HO_7.out) hb); replace HB := uB HB hb; (try clear hb); (try clear hk); (try clear ho0); obtain ⟨Ao62, co62, eo62⟩ := Kd.R_slice HO544.out; subst eo62) | ((with_reducible refine gC 26 ?_); refine lA (some 157) Tryd.func26 (impl_FirstSlot.calls k2 _ _ t539 t540 t541 t542 t545 t546 _ ?side1 ?side2 A57.out) ?_; (case side1 => repeat (first | exact (Kd.R_reads' HO544.out).2.2 | (with_reducible refine Kd.C_alloc ?_ _) | (with_reducible refine Kd.C_drewN ?_ _) | (with_reducible refine Kd.C_drew ?_))); (case side2 => exact (Kd.R_reads' HO544.out).2.1); intro w63 hb; replace HO_3 := uR HO_3 hb; replace HO_7 := Aside0.mk (Kd.S_below (by (with_reducible repeat (first | apply Kd.S_alloc | apply Kd.S_drewN | apply Kd.S_drew)); exact HO_7.out) hb); replace HO544 := uR HO544 hb; replace HB := uB HB hb; (try clear hb); (try clear hk)) | ((with_reducible refine gC 25 ?_); refine lA (some 165) Tryd.func25 (spec_FirstSlot.calls k2 _ _ t539 t540 t541 t542 t547 t548 _ ?side1 ?side2 A58.out) ?_; (case side1 => repeat (first | exact (Kd.R_reads' HO544.out).2.2 | (with_reducible refine Kd.C_alloc ?_ _) | (with_reducible refine Kd.C_drewN ?_ _) | (with_reducible refine Kd.C_drew ?_))); (case side2 => exact (Kd.R_reads' HO544.out).2.1); intro w64 hb; replace HO_3 := uR HO_3 hb; replace HO_7 := Aside0.mk (Kd.S_below (by (with_reducible repeat (first | apply Kd.S_alloc | apply Kd.S_drewN | apply Kd.S_drew)); exact HO_7.out) hb); replace HO544 := uR HO544 hb; replace HB := uB HB hb; (try clear hb); (try clear hk)))
          (try simp only [Act.put, List.setIfInBounds_toArray, List.set_cons_zero, List.set_cons_succ])
          go_cut [175] (fun v175 wc => ∃ (kq : Nat) (x175_58 : Bool), v175 = .bool x175_58 ∧ Aside0 (laws_FnPermitDays.j2 kq l0 t539 t540 t542 t545 t546 x175_58 = some r) ∧ Aside0 (kq ≤ k2) ∧ Aside0 (Kd.R k26 26 wc w.heap.size (fun _ => True) (.slice Ao62 t539.length co62) t539) ∧ Aside0 (Below w.heap.size w wc))
          case first =>
           have H := HC59.out
           clear HC59
           replace H := ifI H
           rcases H with ⟨H, -, c65b0, c65b1⟩ | ⟨H, c65, c65b0, c65b1⟩
           ·(first | rw [c65b0] | (simp only [i64_w, i32_w]; rw [c65b0]) | skip)
            have H' := Aside0.mk H
            clear H
            go_wp2
            go_meet
            case rel => exact ⟨_, ((t546 != t548)), rB, H', ⟨by have := HJ6.out; have := HK2.out; first | omega | exact Nat.le_refl _⟩, ⟨by (with_reducible repeat (first | apply Kd.R_alloc | apply Kd.R_drewN | apply Kd.R_drew)); exact Kd.R_mono HO544.out (fun _ hk => trivial)⟩, (aB HB)⟩
           ·(first | rw [c65b0] | (simp only [i64_w, i32_w]; rw [c65b0]) | skip)
            have H' := Aside0.mk H
            clear H
            go_wp2
            go_meet
            case rel => exact ⟨_, (true), rB, H', ⟨by have := HJ6.out; have := HK2.out; first | omega | exact Nat.le_refl _⟩, ⟨by (with_reducible repeat (first | apply Kd.R_alloc | apply Kd.R_drewN | apply Kd.R_drew)); exact Kd.R_mono HO544.out (fun _ hk => trivial)⟩, (aB HB)⟩
          case rest =>
           apply Classical.byContradiction
           intro hn_
           letI h_ : (0 : Nat) = 1 := (hn_ (by
            clear hn_
            clear HC59
            try clear c17b0
            obtain ⟨kq, x175_58, rfl, HA, HJ58, HO_16, HB⟩ := hcut
            cases kq with
            | zero => exact absurd HA.out (by simp [laws_FnPermitDays.j2])
            | succ kj58 =>
             have H := HA.out
             clear HA
             simp only [laws_FnPermitDays.j2] at H
             rcases Bool.eq_false_or_eq_true x175_58 with rfl | rfl
             ·replace H := iT rfl H
              exact absurd (Option.some.inj H) (by rw [hT]; decide)
             ·replace H := iF (by decide) H
              have HC67 := Aside0.mk H
              clear H
              go_upto_if 176 with (fail)
              go_cut [] (fun wc => ∃ (kq : Nat), Aside0 (laws_FnPermitDays.j3 kq l0 = some r) ∧ Aside0 (kq ≤ kj58) ∧ Aside0 (Below w.heap.size w wc))
              case first =>
               have H := HC67.out
               clear HC67
               rcases Bool.eq_false_or_eq_true t546 with rfl | rfl
               ·replace H := iT rfl H
                replace H := Option.bind_eq_some_iff.mp H
                obtain ⟨⟨t549, t550, t551⟩, A690, H⟩ := H
                replace H : (if t551 = true then ((impl_DecidePermit.f kj58 t549 t550 true).bind fun bt554 => (if bt554.2 = true then ((impl_ArePermits.f kj58 bt554.1).bind fun t558 => (if t558 = true then (laws_FnPermitDays.j3 kj58 l0) else (some false))) else (some false))) else (laws_FnPermitDays.j3 kj58 l0)) = some r := H
                have A69 := Aside0.mk A690
                clear A690
                rcases Bool.eq_false_or_eq_true t551 with rfl | rfl
                ·replace H := iT rfl H
                 replace H := Option.bind_eq_some_iff.mp H
                 obtain ⟨⟨t554, t555⟩, A710, H⟩ := H
                 replace H : (if t555 = true then ((impl_ArePermits.f kj58 t554).bind fun t558 => (if t558 = true then (laws_FnPermitDays.j3 kj58 l0) else (some false))) else (some false)) = some r := H
                 have A71 := Aside0.mk A710
                 clear A710
                 rcases Bool.eq_false_or_eq_true t555 with rfl | rfl
                 ·replace H := iT rfl H
                  replace H := bA H
                  obtain ⟨t558, A73, H⟩ := H
                  rcases Bool.eq_false_or_eq_true t558 with rfl | rfl
                  ·replace H := iT rfl H
                   have H' := Aside0.mk H
                   clear H
                   go_wp2_with (first | ((with_reducible refine gate_callee (f := 28) rfl ?_); refine goesL_ (some 185) rfl rfl Tryd.func28 (by kernel_rfl) rfl #[.slice Ao62 t539.length co62, .string t540, .int .i64 t545, .int .i64 (wrap64 ((wrap64 (t545 + t542)) - 1)), .int .i64 1] rfl argsB ?_; (with_reducible refine (impl_AskPermit.calls kj58 _ _ t539 t540 t545 (wrap64 ((wrap64 (t545 + t542)) - 1)) 1 t549 t550 true _ ?side1 ?side2 A69.out).mono ?_); (case side1 => repeat (first | exact (Kd.R_reads' HO_16.out).2.2 | (with_reducible refine Kd.C_alloc ?_ _) | (with_reducible refine Kd.C_drewN ?_ _) | (with_reducible refine Kd.C_drew ?_))); (case side2 => exact (Kd.R_reads' HO_16.out).2.1); rintro e w75 ⟨v552, rfl, ho0, hb⟩; refine ⟨_, rfl, ?_⟩; have HO553 := Aside0.mk (Kd.R_lower (Kd.R_new' ho0 (Kd.R_lt (upR HO_16.out))) (below_size (bW HB))); replace HO_16 := Aside0.mk (Kd.R_elder' (upR HO_16.out) (Kd.R_base ho0) hb); replace HB := uB HB hb; (try clear hb); (try clear hk); (try clear ho0); obtain ⟨Ao76, co76, eo76⟩ := Kd.R_slice HO553.out; subst eo76) | ((with_reducible refine gate_callee (f := 36) rfl ?_); refine goesL_ (some 193) rfl rfl Tryd.func36 (by kernel_rfl) rfl #[.slice Ao76 t549.length co76, .int .i64 t550, .bool true] rfl argsB ?_; (with_reducible refine (impl_DecidePermit.calls kj58 _ _ t549 t550 true t554 true _ ?side1 ?side2 A71.out).mono ?_); (case side1 => repeat (first | exact (Kd.R_reads' HO553.out).2.2 | (with_reducible refine Kd.C_alloc ?_ _) | (with_reducible refine Kd.C_drewN ?_ _) | (with_reducible refine Kd.C_drew ?_))); (case side2 => exact (Kd.R_reads' HO553.out).2.1); rintro e w77 ⟨v556, rfl, ho0, hb⟩; refine ⟨_, rfl, ?_⟩; have HO557 := Aside0.mk (Kd.R_lower (Kd.R_new' (Kd.R_new' ho0 (Kd.R_lt (upR HO_16.out))) (Kd.R_lt (upR HO553.out))) (below_size (bW HB))); replace HO_16 := Aside0.mk (Kd.R_elder' (upR HO_16.out) (Kd.R_base ho0) hb); replace HO553 := Aside0.mk (Kd.R_elder' (upR HO553.out) (Kd.R_base ho0) hb); replace HB := uB HB hb; (try clear hb); (try clear hk); (try clear ho0); obtain ⟨Ao78, co78, eo78⟩ := Kd.R_slice HO557.out; subst eo78) | (go_at_call 21; (with_reducible refine (impl_ArePermits.calls kj58 _ _ t554 true _ ?side1 ?side2 A73.out).mono ?_); (case side1 => repeat (first | exact (Kd.R_reads' HO557.out).2.2 | (with_reducible refine Kd.C_alloc ?_ _) | (with_reducible refine Kd.C_drewN ?_ _) | (with_reducible refine Kd.C_drew ?_))); (case side2 => exact (Kd.R_reads' HO557.out).2.1); rintro e w79 ⟨rfl, hb⟩; replace HO_16 := uR HO_16 hb; replace HO553 := uR HO553 hb; replace HO557 := uR HO557 hb; replace HB := uB HB hb; (try clear hb); (try clear hk)))
                   go_meet
                   case rel => exact ⟨_, H', ⟨by have := HJ6.out; have := HK2.out; have := HJ58.out; first | omega | exact Nat.le_refl _⟩, (aB HB)⟩
                  ·replace H := iF (by decide) H
                   exact absurd (Option.some.inj H) (by rw [hT]; decide)
                 ·replace H := iF (by decide) H
                  exact absurd (Option.some.inj H) (by rw [hT]; decide)
                ·replace H := iF (by decide) H
                 have H' := Aside0.mk H
                 clear H
                 go_wp2_with (first | ((with_reducible refine gate_callee (f := 28) rfl ?_); refine goesL_ (some 185) rfl rfl Tryd.func28 (by kernel_rfl) rfl #[.slice Ao62 t539.length co62, .string t540, .int .i64 t545, .int .i64 (wrap64 ((wrap64 (t545 + t542)) - 1)), .int .i64 1] rfl argsB ?_; (with_reducible refine (impl_AskPermit.calls kj58 _ _ t539 t540 t545 (wrap64 ((wrap64 (t545 + t542)) - 1)) 1 t549 t550 false _ ?side1 ?side2 A69.out).mono ?_); (case side1 => repeat (first | exact (Kd.R_reads' HO_16.out).2.2 | (with_reducible refine Kd.C_alloc ?_ _) | (with_reducible refine Kd.C_drewN ?_ _) | (with_reducible refine Kd.C_drew ?_))); (case side2 => exact (Kd.R_reads' HO_16.out).2.1); rintro e w88 ⟨v552, rfl, ho0, hb⟩; refine ⟨_, rfl, ?_⟩; have HO553 := Aside0.mk (Kd.R_lower (Kd.R_new' ho0 (Kd.R_lt (upR HO_16.out))) (below_size (bW HB))); replace HO_16 := Aside0.mk (Kd.R_elder' (upR HO_16.out) (Kd.R_base ho0) hb); replace HB := uB HB hb; (try clear hb); (try clear hk); (try clear ho0)))
                 go_meet
                 case rel => exact ⟨_, H', ⟨by have := HJ6.out; have := HK2.out; have := HJ58.out; first | omega | exact Nat.le_refl _⟩, (aB HB)⟩
               ·replace H := iF (by decide) H
                have H' := Aside0.mk H
                clear H
                go_wp2
                go_meet
                case rel => exact ⟨_, H', ⟨by have := HJ6.out; have := HK2.out; have := HJ58.out; first | omega | exact Nat.le_refl _⟩, (aB HB)⟩
              case rest =>
               apply Classical.byContradiction
               intro hn_
               letI h_ : (0 : Nat) = 1 := (hn_ (by
                clear hn_
                clear HC67
                try clear c17b0
                obtain ⟨kq, HA, HJ66, HB⟩ := hcut
                cases kq with
                | zero => exact absurd HA.out (by simp [laws_FnPermitDays.j3])
                | succ kj66 =>
                 have H := HA.out
                 clear HA
                 simp only [laws_FnPermitDays.j3] at H
                 replace H := Option.bind_eq_some_iff.mp H
                 obtain ⟨⟨t559, t560, t561, t562, t563⟩, A890, H⟩ := H
                 replace H : ((impl_AskPermit.f kj66 t559 t560 t561 t562 t563).bind fun bt566 => ((spec_AskPermit.f kj66 t559 t560 t561 t562 t563).bind fun bt571 => (if (bt566.2.2 != bt571.2.2) = true then (laws_FnPermitDays.j4 kj66 l0 t559 bt566.1 bt566.2.1 bt566.2.2 true) else (if bt566.2.1 = bt571.2.1 then ((laws_rPermits.f kj66 bt566.1 bt571.1).bind fun t576 => (laws_FnPermitDays.j4 kj66 l0 t559 bt566.1 bt566.2.1 bt566.2.2 (!t576))) else (laws_FnPermitDays.j4 kj66 l0 t559 bt566.1 bt566.2.1 bt566.2.2 true))))) = some r := H
                 have A89 := Aside0.mk A890
                 clear A890
                 replace H := Option.bind_eq_some_iff.mp H
                 obtain ⟨⟨t566, t567, t568⟩, A900, H⟩ := H
                 replace H : ((spec_AskPermit.f kj66 t559 t560 t561 t562 t563).bind fun bt571 => (if (t568 != bt571.2.2) = true then (laws_FnPermitDays.j4 kj66 l0 t559 t566 t567 t568 true) else (if t567 = bt571.2.1 then ((laws_rPermits.f kj66 t566 bt571.1).bind fun t576 => (laws_FnPermitDays.j4 kj66 l0 t559 t566 t567 t568 (!t576))) else (laws_FnPermitDays.j4 kj66 l0 t559 t566 t567 t568 true)))) = some r := H
                 have A90 := Aside0.mk A900
                 clear A900
                 replace H := Option.bind_eq_some_iff.mp H
                 obtain ⟨⟨t571, t572, t573⟩, A910, H⟩ := H
                 replace H : (if (t568 != t573) = true then (laws_FnPermitDays.j4 kj66 l0 t559 t566 t567 t568 true) else (if t567 = t572 then ((laws_rPermits.f kj66 t566 t571).bind fun t576 => (laws_FnPermitDays.j4 kj66 l0 t559 t566 t567 t568 (!t576))) else (laws_FnPermitDays.j4 kj66 l0 t559 t566 t567 t568 true))) = some r := H
                 have A91 := Aside0.mk A910
                 clear A910
                 have HC92 := Aside0.mk H
                 clear H
                 go_upto_region 29 with (first | ((with_reducible refine gate_callee (f := 51) rfl ?_); refine goesL_ (some 205) rfl rfl Tryd.func51 (by kernel_rfl) rfl #[.slice A0 l0.length c0] rfl argsB ?_; (with_reducible refine (spec_DrawAskPermit.calls kj66 _ _ l0 t559 t560 t561 t562 t563 _ ?side1 ?side2 A89.out).mono ?_); (case side1 => repeat (first | exact (Kd.C_below HR0.out HB.out) | (with_reducible refine Kd.C_alloc ?_ _) | (with_reducible refine Kd.C_drewN ?_ _) | (with_reducible refine Kd.C_drew ?_))); (case side2 => exact HC0.out); rintro e w93 ⟨v564, rfl, ho0, hb⟩; refine ⟨_, rfl, ?_⟩; have HO565 := Aside0.mk (Kd.R_lower ho0 (below_size (bW HB))); replace HB := uB HB hb; (try clear hb); (try clear hk); (try clear ho0); obtain ⟨Ao94, co94, eo94⟩ := Kd.R_slice HO565.out; subst eo94) | ((with_reducible refine gate_callee (f := 28) rfl ?_); refine goesL_ (some 217) rfl rfl Tryd.func28 (by kernel_rfl) rfl #[.slice Ao94 t559.length co94, .string t560, .int .i64 t561, .int .i64 t562, .int .i64 t563] rfl argsB ?_; (with_reducible refine (impl_AskPermit.calls kj66 _ _ t559 t560 t561 t562 t563 t566 t567 t568 _ ?side1 ?side2 A90.out).mono ?_); (case side1 => repeat (first | exact (Kd.R_reads' HO565.out).2.2 | (with_reducible refine Kd.C_alloc ?_ _) | (with_reducible refine Kd.C_drewN ?_ _) | (with_reducible refine Kd.C_drew ?_))); (case side2 => exact (Kd.R_reads' HO565.out).2.1); rintro e w95 ⟨v569, rfl, ho0, hb⟩; refine ⟨_, rfl, ?_⟩; have HO570 := Aside0.mk (Kd.R_lower (Kd.R_new' ho0 (Kd.R_lt (upR HO565.out))) (below_size (bW HB))); replace HO565 := Aside0.mk (Kd.R_elder' (upR HO565.out) (Kd.R_base ho0) hb); replace HB := uB HB hb; (try clear hb); (try clear hk); (try clear ho0)) | ((with_reducible refine gate_callee (f := 27) rfl ?_); refine goesL_ (some 227) rfl rfl Tryd.func27 (by kernel_rfl) rfl #[.slice Ao94 t559.length co94, .string t560, .int .i64 t561, .int .i64 t562, .int .i64 t563] rfl argsB ?_; (with_reducible refine (spec_AskPermit.calls kj66 _ _ t559 t560 t561 t562 t563 t571 t572 t573 _ ?side1 ?side2 A91.out).mono ?_); (case side1 => repeat (first | exact (Kd.R_reads' HO565.out).2.2 | (with_reducible refine Kd.C_alloc ?_ _) | (with_reducible refine Kd.C_drewN ?_ _) | (with_reducible refine Kd.C_drew ?_))); (case side2 => exact (Kd.R_reads' HO565.out).2.1); rintro e w96 ⟨v574, rfl, ho0, hb⟩; refine ⟨_, rfl, ?_⟩; have HO575 := Aside0.mk (Kd.R_lower (Kd.R_new' (Kd.R_new' ho0 (Kd.R_lt (upR HO565.out))) (Kd.R_lt (upR HO570.out))) (below_size (bW HB))); replace HO565 := Aside0.mk (Kd.R_elder' (upR HO565.out) (Kd.R_base ho0) hb); replace HO570 := Aside0.mk (Kd.R_elder' (upR HO570.out) (Kd.R_base ho0) hb); replace HB := uB HB hb; (try clear hb); (try clear hk); (try clear ho0)))
                 (try simp only [Act.put, List.setIfInBounds_toArray, List.set_cons_zero, List.set_cons_succ])
                 go_cut [244] (fun v244 wc => ∃ (kq : Nat) (x244_91 : Bool), v244 = .bool x244_91 ∧ Aside0 (laws_FnPermitDays.j4 kq l0 t559 t566 t567 t568 x244_91 = some r) ∧ Aside0 (kq ≤ kj66) ∧ Aside0 (Kd.R k26 26 wc w.heap.size (fun k_ => some k_ ≠ (v569 : Value).ownBlock) (.slice Ao94 t559.length co94) t559) ∧ Aside0 (Kd.R k26 26 wc w.heap.size (fun k_ => some k_ ≠ ((.slice Ao94 t559.length co94) : Value).ownBlock) v569 t566) ∧ Aside0 (Below w.heap.size w wc))
                 case first =>
                  have H := HC92.out
                  clear HC92
                  by_cases c97 : (t568 != t573) = true
                  ·rw [if_pos c97] at H
                   have c97b0 : (t568 != t573) = true := c97
                   (try (have c97b1 : decide (t568 = t573) = false := by simpa using c97))
                   (try (have c97b2 : (t568 == t573) = false := by simpa using c97))
                   (try (have c97b3 : ¬ (t568 = t573) := by simpa using c97))
                   clear c97
                   (first | rw [c97b0] | (simp only [i64_w, i32_w]; rw [c97b0]) | skip)
                   have H' := Aside0.mk H
                   clear H
                   go_wp2
                   go_meet
                   case rel => exact ⟨_, (true), rB, H', ⟨by have := HJ6.out; have := HK2.out; have := HJ58.out; have := HJ66.out; first | omega | exact Nat.le_refl _⟩, ⟨by (with_reducible repeat (first | apply Kd.R_alloc | apply Kd.R_drewN | apply Kd.R_drew)); exact Kd.R_mono HO565.out (fun _ hk => hk.1.2)⟩, ⟨by (with_reducible repeat (first | apply Kd.R_alloc | apply Kd.R_drewN | apply Kd.R_drew)); exact Kd.R_mono HO570.out (fun _ hk => hk.1.2)⟩, (aB HB)⟩
                  ·rw [if_neg c97] at H
                   have c97b0 : (t568 != t573) = false := by simpa using c97
                   (try (have c97b1 : decide (t568 = t573) = true := by simpa using c97))
                   (try (have c97b2 : (t568 == t573) = true := by simpa using c97))
                   clear c97
                   (first | rw [c97b0] | (simp only [i64_w, i32_w]; rw [c97b0]) | skip)
                   replace H := ifI H
                   rcases H with ⟨H, -, c98b0, c98b1⟩ | ⟨H, c98, c98b0, c98b1⟩
                   ·replace H := bA H
                    obtain ⟨t576, A99, H⟩ := H
                    have H' := Aside0.mk H
                    clear H
                    obtain ⟨Ao100, co100, eo100⟩ := Kd.R_slice HO570.out
                    subst eo100
                    obtain ⟨Ao101, co101, eo101⟩ := Kd.R_slice HO575.out
                    subst eo101
                    go_wp2_with (first | (go_at_call 44; (with_reducible refine (laws_rPermits.calls kj66 _ _ t566 _ _ t571 t576 _ ?side1 ?side2 ?side3 ?side4 A99.out).mono ?_); (case side1 => repeat (first | exact (Kd.R_reads' HO570.out).2.2 | (with_reducible refine Kd.C_alloc ?_ _) | (with_reducible refine Kd.C_drewN ?_ _) | (with_reducible refine Kd.C_drew ?_))); (case side2 => exact (Kd.R_reads' HO570.out).2.1); (case side3 => repeat (first | exact (Kd.R_reads' HO575.out).2.2 | (with_reducible refine Kd.C_alloc ?_ _) | (with_reducible refine Kd.C_drewN ?_ _) | (with_reducible refine Kd.C_drew ?_))); (case side4 => exact (Kd.R_reads' HO575.out).2.1); rintro e w' ⟨rfl, ⟨nd, rfl⟩⟩))
                    go_meet
                    case rel => exact ⟨_, (!t576), rB, H', ⟨by have := HJ6.out; have := HK2.out; have := HJ58.out; have := HJ66.out; first | omega | exact Nat.le_refl _⟩, ⟨by (with_reducible repeat (first | apply Kd.R_alloc | apply Kd.R_drewN | apply Kd.R_drew)); exact Kd.R_mono HO565.out (fun _ hk => hk.1.2)⟩, ⟨by (with_reducible repeat (first | apply Kd.R_alloc | apply Kd.R_drewN | apply Kd.R_drew)); exact Kd.R_mono HO570.out (fun _ hk => hk.1.2)⟩, (aB HB)⟩
                   ·have H' := Aside0.mk H
                    clear H
                    go_wp2
                    go_meet
                    case rel => exact ⟨_, (true), rB, H', ⟨by have := HJ6.out; have := HK2.out; have := HJ58.out; have := HJ66.out; first | omega | exact Nat.le_refl _⟩, ⟨by (with_reducible repeat (first | apply Kd.R_alloc | apply Kd.R_drewN | apply Kd.R_drew)); exact Kd.R_mono HO565.out (fun _ hk => hk.1.2)⟩, ⟨by (with_reducible repeat (first | apply Kd.R_alloc | apply Kd.R_drewN | apply Kd.R_drew)); exact Kd.R_mono HO570.out (fun _ hk => hk.1.2)⟩, (aB HB)⟩
                 case rest =>
                  apply Classical.byContradiction
                  intro hn_
                  letI h_ : (0 : Nat) = 1 := (hn_ (by
                   clear hn_
                   clear HC92
                   try clear c17b0
                   obtain ⟨kq, x244_91, rfl, HA, HJ91, HO_29, HO_34, HB⟩ := hcut
                   cases kq with
                   | zero => exact absurd HA.out (by simp [laws_FnPermitDays.j4])
                   | succ kj91 =>
                    have H := HA.out
                    clear HA
                    simp only [laws_FnPermitDays.j4] at H
                    rcases Bool.eq_false_or_eq_true x244_91 with rfl | rfl
                    ·replace H := iT rfl H
                     exact absurd (Option.some.inj H) (by rw [hT]; decide)
                    ·replace H := iF (by decide) H
                     replace H := Option.bind_eq_some_iff.mp H
                     obtain ⟨⟨t577, t578, t579, t580, t581, t582⟩, A1030, H⟩ := H
                     replace H : ((impl_IsPermit.f t577 t578 t579 t580 t581 t582).bind fun t584 => ((spec_IsPermit.f kj91 t577 t578 t579 t580 t581 t582).bind fun t585 => (if (t584 == t585) = true then (if t568 = true then (if 0 ≤ (wrap64 ((t566.length : Int) - 1)) then (if (wrap64 ((t566.length : Int) - 1)) < (t566.length : Int) then (if ((rd_T26 t566 (wrap64 ((t566.length : Int) - 1))).f0) = t567 then (some ((t566.length : Int) == (wrap64 ((t559.length : Int) + 1)))) else (some false)) else (none)) else (none)) else (some true)) else (some false)))) = some r := H
                     have A103 := Aside0.mk A1030
                     clear A1030
                     replace H := bA H
                     obtain ⟨t584, A104, H⟩ := H
                     replace H := bA H
                     obtain ⟨t585, A105, H⟩ := H
                     by_cases c106 : (t584 == t585) = true
                     ·rw [if_pos c106] at H
                      have c106b0 : (t584 == t585) = true := c106
                      (try (have c106b1 : decide (t584 = t585) = true := by simpa using c106))
                      (try (have c106b2 : (t584 == t585) = true := by simpa using c106))
                      clear c106
                      rcases Bool.eq_false_or_eq_true t568 with rfl | rfl
                      ·replace H := iT rfl H
                       obtain ⟨ji108, hji108⟩ : ∃ j_ : Int, (wrap64 ((t566.length : Int) - 1)) = j_ := ⟨_, rfl⟩
                       replace H : (if 0 ≤ (ji108) then (if (ji108) < (t566.length : Int) then (if ((rd_T26 t566 (ji108)).f0) = t567 then (some ((t566.length : Int) == (wrap64 ((t559.length : Int) + 1)))) else (some false)) else (none)) else (none)) = some r := by first | (rw [hji108] at H; exact H) | (simp only [hji108] at H ⊢; exact H)
                       (try rw [hji108] at A103)
                       (try rw [hji108] at A104)
                       (try rw [hji108] at A105)
                       have hji108w : (IntKind.i64.wrap ((t566.length : Int) - 1)) = ji108 := (i64_w _).trans hji108
                       by_cases c109 : 0 ≤ (ji108)
                       ·rw [if_pos c109] at H
                        have c109b0 : decide (0 ≤ (ji108)) = true := decide_eq_true c109
                        clear c109
                        by_cases c110 : (ji108) < (t566.length : Int)
                        ·rw [if_pos c110] at H
                         have c110b0 : decide ((ji108) < (t566.length : Int)) = true := decide_eq_true c110
                         clear c110
                         replace H := ifI H
                         rcases H with ⟨H, -, c111b0, c111b1⟩ | ⟨H, c111, c111b0, c111b1⟩
                         ·obtain rfl := (Option.some.inj H)
                          try go_wp2_with (first | ((with_reducible refine gC 52 ?_); refine lA (some 246) Tryd.func52 (spec_DrawIsPermit.calls _ _ l0 t577 t578 t579 t580 t581 t582 _ ?side1 ?side2 A103.out) ?_; (case side1 => repeat (first | exact (Kd.C_below HR0.out HB.out) | (with_reducible refine Kd.C_alloc ?_ _) | (with_reducible refine Kd.C_drewN ?_ _) | (with_reducible refine Kd.C_drew ?_))); (case side2 => exact HC0.out); intro w112 hb; replace HO_29 := uR HO_29 hb; replace HO_34 := uR HO_34 hb; replace HB := uB HB hb; (try clear hb); (try clear hk)) | ((with_reducible refine gD 40 ?_); (try (refine gate_guard (by rfl) ?_; dsimp only)); refine bxE 40 26 #[.int .i64 0, .string (⟨#[]⟩ : ByteArray), .int .i64 0, .int .i64 0, .int .i64 0, .int .i64 0] fun gb583 w113 hg hbox hb => ?_; have BK583 := Aside0.mk hbox; have GE583 := gB HB hg; replace HO_29 := Aside0.mk (Kd.R_below (Kd.R_elderB (upR HO_29.out) gb583 (Nat.le_of_eq hg.symm)) hb); replace HO_34 := Aside0.mk (Kd.R_below (Kd.R_elderB (upR HO_34.out) gb583 (Nat.le_of_eq hg.symm)) hb); replace HB := uB HB hb; clear hb hbox hg; have hcz114_0 := ci BK583.out 0 0 rfl; have hcz114_1 : w113.cell? ⟨gb583, 1, none⟩ = some (.string (⟨#[]⟩ : ByteArray)) := cb BK583 1; have hcz114_2 := ci BK583.out 2 0 rfl; have hcz114_3 := ci BK583.out 3 0 rfl; have hcz114_4 := ci BK583.out 4 0 rfl; have hcz114_5 := ci BK583.out 5 0 rfl; have hfz114_0 := fun j_ : Nat => blk_frozen BK583.out j_))
                          have n0_ : Aside0 (Kd.R k26 26 ((((((w113.setCell ⟨gb583, 0, none⟩ (.int .i64 t577)).setCell ⟨gb583, 1, none⟩ (.string t578)).setCell ⟨gb583, 2, none⟩ (.int .i64 t579)).setCell ⟨gb583, 3, none⟩ (.int .i64 t580)).setCell ⟨gb583, 4, none⟩ (.int .i64 t581)).setCell ⟨gb583, 5, none⟩ (.int .i64 t582)) w.heap.size (fun k_ => some k_ ≠ (v569 : Value).ownBlock ∧ k_ ≠ gb583) (.slice Ao94 t559.length co94) t559) := ⟨by (with_reducible repeat (first | apply Kd.R_alloc | apply Kd.R_drewN | apply Kd.R_drew)); exact Kd.R_mono (Kd.R_far (p := ⟨gb583, 5, none⟩) (Kd.R_far (p := ⟨gb583, 4, none⟩) (Kd.R_far (p := ⟨gb583, 3, none⟩) (Kd.R_far (p := ⟨gb583, 2, none⟩) (Kd.R_far (p := ⟨gb583, 1, none⟩) (Kd.R_far (p := ⟨gb583, 0, none⟩) (Kd.R_mono HO_29.out (fun k_ hk => (⟨hk, hk.2⟩ : _ ∧ k_ ≠ gb583))) (fun _ hk => hk.2) (.int .i64 t577)) (fun _ hk => hk.2) (.string t578)) (fun _ hk => hk.2) (.int .i64 t579)) (fun _ hk => hk.2) (.int .i64 t580)) (fun _ hk => hk.2) (.int .i64 t581)) (fun _ hk => hk.2) (.int .i64 t582)) (fun _ hk => ⟨hk.1.1, hk.1.2⟩)⟩
                          have n1_ : Aside0 (Kd.R k26 26 ((((((w113.setCell ⟨gb583, 0, none⟩ (.int .i64 t577)).setCell ⟨gb583, 1, none⟩ (.string t578)).setCell ⟨gb583, 2, none⟩ (.int .i64 t579)).setCell ⟨gb583, 3, none⟩ (.int .i64 t580)).setCell ⟨gb583, 4, none⟩ (.int .i64 t581)).setCell ⟨gb583, 5, none⟩ (.int .i64 t582)) w.heap.size (fun k_ => some k_ ≠ (.slice Ao94 t559.length co94 : Value).ownBlock ∧ k_ ≠ gb583) v569 t566) := ⟨by (with_reducible repeat (first | apply Kd.R_alloc | apply Kd.R_drewN | apply Kd.R_drew)); exact Kd.R_mono (Kd.R_far (p := ⟨gb583, 5, none⟩) (Kd.R_far (p := ⟨gb583, 4, none⟩) (Kd.R_far (p := ⟨gb583, 3, none⟩) (Kd.R_far (p := ⟨gb583, 2, none⟩) (Kd.R_far (p := ⟨gb583, 1, none⟩) (Kd.R_far (p := ⟨gb583, 0, none⟩) (Kd.R_mono HO_34.out (fun k_ hk => (⟨hk, hk.2⟩ : _ ∧ k_ ≠ gb583))) (fun _ hk => hk.2) (.int .i64 t577)) (fun _ hk => hk.2) (.string t578)) (fun _ hk => hk.2) (.int .i64 t579)) (fun _ hk => hk.2) (.int .i64 t580)) (fun _ hk => hk.2) (.int .i64 t581)) (fun _ hk => hk.2) (.int .i64 t582)) (fun _ hk => ⟨hk.1.1, hk.1.2⟩)⟩
                          have n2_ : Aside0 (((((((w113.setCell ⟨gb583, 0, none⟩ (.int .i64 t577)).setCell ⟨gb583, 1, none⟩ (.string t578)).setCell ⟨gb583, 2, none⟩ (.int .i64 t579)).setCell ⟨gb583, 3, none⟩ (.int .i64 t580)).setCell ⟨gb583, 4, none⟩ (.int .i64 t581)).setCell ⟨gb583, 5, none⟩ (.int .i64 t582)).heap[gb583]? = some (.cells #[.int .i64 t577, .string t578, .int .i64 t579, .int .i64 t580, .int .i64 t581, .int .i64 t582] 26 (0, 0))) := ⟨by exact pW BK583⟩
                          have n3_ : Aside0 (Below w.heap.size w ((((((w113.setCell ⟨gb583, 0, none⟩ (.int .i64 t577)).setCell ⟨gb583, 1, none⟩ (.string t578)).setCell ⟨gb583, 2, none⟩ (.int .i64 t579)).setCell ⟨gb583, 3, none⟩ (.int .i64 t580)).setCell ⟨gb583, 4, none⟩ (.int .i64 t581)).setCell ⟨gb583, 5, none⟩ (.int .i64 t582))) := (aB HB)
                          (try clear HO_29)
                          (try clear HO_34)
                          (try clear BK583)
                          (try clear HB)
                          generalize ((((((w113.setCell ⟨gb583, 0, none⟩ (.int .i64 t577)).setCell ⟨gb583, 1, none⟩ (.string t578)).setCell ⟨gb583, 2, none⟩ (.int .i64 t579)).setCell ⟨gb583, 3, none⟩ (.int .i64 t580)).setCell ⟨gb583, 4, none⟩ (.int .i64 t581)).setCell ⟨gb583, 5, none⟩ (.int .i64 t582)) = w115 at n0_ n1_ n2_ n3_ ⊢
                          have HO_29 := n0_
                          have HO_34 := n1_
                          have BK583 := n2_
                          have HB := n3_
                          clear n0_ n1_ n2_ n3_
                          replace HO_29 := Aside0.mk (Kd.R_drew HO_29.out)
                          replace HO_34 := Aside0.mk (Kd.R_drew HO_34.out)
                          replace BK583 := dK BK583
                          replace HB := Aside0.mk (below_drew1 HB.out)
                          have p586 : 0 ≤ ((ji108) : Int) := of_decide_eq_true asmB
                          have q586 : (ji108) < (t566.length : Int) := of_decide_eq_true asmB
                          (try (obtain ⟨Aoz_, coz_, eoz_⟩ := Kd.R_slice HO_34.out; subst eoz_))
                          obtain ⟨ad586, e586, hx586_0, hx586_1, hx586_2, hx586_3, hx586_4, hx586_5⟩ := at_T26 (Kd.R_reads' HO_34.out).2.2 (ji108) p586 q586
                          cases e586
                          replace p586 := eq_true p586
                          replace q586 := eq_true q586
                          refine sA (n := 29) (S := fun w' => w'.cell? ⟨gb583, 0, none⟩ = some (.int .i64 t577) ∧ w'.cell? ⟨gb583, 1, none⟩ = some (.string t578) ∧ w'.cell? ⟨gb583, 2, none⟩ = some (.int .i64 t579) ∧ w'.cell? ⟨gb583, 3, none⟩ = some (.int .i64 t580) ∧ w'.cell? ⟨gb583, 4, none⟩ = some (.int .i64 t581) ∧ w'.cell? ⟨gb583, 5, none⟩ = some (.int .i64 t582) ∧ w'.cell? (ad586.add (((ji108)).toNat * 6)) = some (.int .i64 ((rd_T26 t566 (ji108)).f0)) ∧ w'.cell? ⟨(ad586.add (((ji108)).toNat * 6)).block, (ad586.add (((ji108)).toNat * 6)).off + 1, none⟩ = some (.string ((rd_T26 t566 (ji108)).f1)) ∧ w'.cell? ⟨(ad586.add (((ji108)).toNat * 6)).block, (ad586.add (((ji108)).toNat * 6)).off + 2, none⟩ = some (.int .i64 ((rd_T26 t566 (ji108)).f2)) ∧ w'.cell? ⟨(ad586.add (((ji108)).toNat * 6)).block, (ad586.add (((ji108)).toNat * 6)).off + 3, none⟩ = some (.int .i64 ((rd_T26 t566 (ji108)).f3)) ∧ w'.cell? ⟨(ad586.add (((ji108)).toNat * 6)).block, (ad586.add (((ji108)).toNat * 6)).off + 4, none⟩ = some (.int .i64 ((rd_T26 t566 (ji108)).f4)) ∧ w'.cell? ⟨(ad586.add (((ji108)).toNat * 6)).block, (ad586.add (((ji108)).toNat * 6)).off + 5, none⟩ = some (.int .i64 ((rd_T26 t566 (ji108)).f5))) (ds := []) laws_FnPermitDays.tab32 laws_FnPermitDays.bits32 #[false, false, false, false, false, false, false, false, false, false, false, false, false, false, false, false, false, false, false, false, false, false, false, false, false, false, false, false, false] ⟨cb BK583 0, cb BK583 1, cb BK583 2, cb BK583 3, cb BK583 4, cb BK583 5, hx586_0, hx586_1, hx586_2, hx586_3, hx586_4, hx586_5⟩ fun hHeld HT_ HW_ => ?_
                          generalize w115.drew = w116 at HO_29 HO_34 BK583 HB hx586_0 hx586_1 hx586_2 hx586_3 hx586_4 hx586_5 hHeld ⊢
                          refine tA 0 247 HT_ HW_ hHeld ?_
                          refine tA 2 249 HT_ HW_ hHeld ?_
                          refine oA 1 (some 248) HT_ fun K hK => ?_
                          refine goes_ Tryd.func17 (by kernel_rfl) rfl #[.agg #[.int .i64 t577, .string t578, .int .i64 t579, .int .i64 t580, .int .i64 t581, .int .i64 t582]] (by rfl) rfl rfl argsB ?_
                          with_reducible refine (impl_IsPermit.calls t577 t578 t579 t580 t581 t582 t584 _ A104.out).mono ?_
                          rintro e w117 ⟨rfl, hb⟩
                          have HS6_ := (hb.cell (World.block_lt_of_cell? _ _ (hHeld.2.2.2.2.2.2.1))).trans (hHeld.2.2.2.2.2.2.1)
                          have HS7_ := (hb.cell (World.block_lt_of_cell? _ _ (hHeld.2.2.2.2.2.2.2.1))).trans (hHeld.2.2.2.2.2.2.2.1)
                          have HS8_ := (hb.cell (World.block_lt_of_cell? _ _ (hHeld.2.2.2.2.2.2.2.2.1))).trans (hHeld.2.2.2.2.2.2.2.2.1)
                          have HS9_ := (hb.cell (World.block_lt_of_cell? _ _ (hHeld.2.2.2.2.2.2.2.2.2.1))).trans (hHeld.2.2.2.2.2.2.2.2.2.1)
                          have HS10_ := (hb.cell (World.block_lt_of_cell? _ _ (hHeld.2.2.2.2.2.2.2.2.2.2.1))).trans (hHeld.2.2.2.2.2.2.2.2.2.2.1)
                          have HS11_ := (hb.cell (World.block_lt_of_cell? _ _ (hHeld.2.2.2.2.2.2.2.2.2.2.2))).trans (hHeld.2.2.2.2.2.2.2.2.2.2.2)
                          refine ⟨_, rfl, ?_⟩
                          replace HO_29 := uR HO_29 hb
                          replace HO_34 := uR HO_34 hb
                          replace BK583 := uK BK583 hb
                          replace HB := uB HB hb
                          (try clear hb)
                          (try clear hk)
                          refine hK.out _ _ ⟨cb BK583 0, cb BK583 1, cb BK583 2, cb BK583 3, cb BK583 4, cb BK583 5, HS6_, HS7_, HS8_, HS9_, HS10_, HS11_⟩ (fun hHeld => ?_)
                          clear hK K
                          refine nA ?_ (some 248)
                          refine oA 3 (some 250) HT_ fun K hK => ?_
                          refine goes_ Tryd.func15 (by kernel_rfl) rfl #[.agg #[.int .i64 t577, .string t578, .int .i64 t579, .int .i64 t580, .int .i64 t581, .int .i64 t582]] (by rfl) rfl rfl argsB ?_
                          with_reducible refine (spec_IsPermit.calls kj91 t577 t578 t579 t580 t581 t582 t585 _ A105.out).mono ?_
                          rintro e w118 ⟨rfl, hb⟩
                          have HS6_ := (hb.cell (World.block_lt_of_cell? _ _ (hHeld.2.2.2.2.2.2.1))).trans (hHeld.2.2.2.2.2.2.1)
                          have HS7_ := (hb.cell (World.block_lt_of_cell? _ _ (hHeld.2.2.2.2.2.2.2.1))).trans (hHeld.2.2.2.2.2.2.2.1)
                          have HS8_ := (hb.cell (World.block_lt_of_cell? _ _ (hHeld.2.2.2.2.2.2.2.2.1))).trans (hHeld.2.2.2.2.2.2.2.2.1)
                          have HS9_ := (hb.cell (World.block_lt_of_cell? _ _ (hHeld.2.2.2.2.2.2.2.2.2.1))).trans (hHeld.2.2.2.2.2.2.2.2.2.1)
                          have HS10_ := (hb.cell (World.block_lt_of_cell? _ _ (hHeld.2.2.2.2.2.2.2.2.2.2.1))).trans (hHeld.2.2.2.2.2.2.2.2.2.2.1)
                          have HS11_ := (hb.cell (World.block_lt_of_cell? _ _ (hHeld.2.2.2.2.2.2.2.2.2.2.2))).trans (hHeld.2.2.2.2.2.2.2.2.2.2.2)
                          refine ⟨_, rfl, ?_⟩
                          replace HO_29 := uR HO_29 hb
                          replace HO_34 := uR HO_34 hb
                          replace BK583 := uK BK583 hb
                          replace HB := uB HB hb
                          (try clear hb)
                          (try clear hk)
                          obtain ⟨Ao119, co119, eo119⟩ := Kd.R_slice HO_34.out
                          (first | subst eo119 | (injection eo119 with f1_ f2_ f3_; have f4_ := f1_.symm; have f5_ := f3_.symm; clear f1_ f2_ f3_; subst f4_; subst f5_))
                          refine hK.out _ _ ⟨cb BK583 0, cb BK583 1, cb BK583 2, cb BK583 3, cb BK583 4, cb BK583 5, HS6_, HS7_, HS8_, HS9_, HS10_, HS11_⟩ (fun hHeld => ?_)
                          clear hK K
                          refine nA ?_ (some 250)
                          refine pA 4 251 HT_ ?_
                          refine pA 5 252 HT_ ?_
                          refine pA 6 253 HT_ ?_
                          refine pA 7 254 HT_ ?_
                          refine pA 8 255 HT_ ?_
                          refine pA 9 256 HT_ ?_
                          refine pA 10 257 HT_ ?_
                          refine pA 11 258 HT_ ?_
                          refine pA 12 259 HT_ ?_
                          refine pA 13 260 HT_ ?_
                          refine pA 14 261 HT_ ?_
                          refine pA 16 263 HT_ ?_
                          refine tA 15 262 HT_ HW_ hHeld ?_
                          refine pA 17 264 HT_ ?_
                          refine pA 18 265 HT_ ?_
                          refine pA 19 266 HT_ ?_
                          refine pA 20 267 HT_ ?_
                          refine pA 21 268 HT_ ?_
                          refine pA 22 269 HT_ ?_
                          refine pA 23 270 HT_ ?_
                          refine pA 24 271 HT_ ?_
                          refine pA 25 272 HT_ ?_
                          refine pA 26 273 HT_ ?_
                          refine pA 27 274 HT_ ?_
                          refine pA 28 2 HT_ ?_
                          refine done_ (done_of HT_.out (by kernel_rfl)) ?_
                          try go_wp2
                          go_ret
                          exact ⟨by first | rfl | (simp [errW_none, errW_some] <;> rfl) | (simp only [← hji108]; first | rfl | (simp [errW_none, errW_some] <;> rfl)) | (simp [*, errW_none, errW_some] <;> rfl), (bW HB)⟩
                         ·exact absurd (Option.some.inj H) (by rw [hT]; decide)
                        ·rw [if_neg c110] at H
                         exact absurd H (by simp)
                       ·rw [if_neg c109] at H
                        exact absurd H (by simp)
                      ·replace H := iF (by decide) H
                       obtain rfl := (Option.some.inj H)
                       try go_wp2_with (first | ((with_reducible refine gC 52 ?_); refine lA (some 246) Tryd.func52 (spec_DrawIsPermit.calls _ _ l0 t577 t578 t579 t580 t581 t582 _ ?side1 ?side2 A103.out) ?_; (case side1 => repeat (first | exact (Kd.C_below HR0.out HB.out) | (with_reducible refine Kd.C_alloc ?_ _) | (with_reducible refine Kd.C_drewN ?_ _) | (with_reducible refine Kd.C_drew ?_))); (case side2 => exact HC0.out); intro w128 hb; replace HO_29 := uR HO_29 hb; replace HO_34 := uR HO_34 hb; replace HB := uB HB hb; (try clear hb); (try clear hk)) | ((with_reducible refine gD 40 ?_); (try (refine gate_guard (by rfl) ?_; dsimp only)); refine bxE 40 26 #[.int .i64 0, .string (⟨#[]⟩ : ByteArray), .int .i64 0, .int .i64 0, .int .i64 0, .int .i64 0] fun gb583 w129 hg hbox hb => ?_; have BK583 := Aside0.mk hbox; have GE583 := gB HB hg; replace HO_29 := Aside0.mk (Kd.R_below (Kd.R_elderB (upR HO_29.out) gb583 (Nat.le_of_eq hg.symm)) hb); replace HO_34 := Aside0.mk (Kd.R_below (Kd.R_elderB (upR HO_34.out) gb583 (Nat.le_of_eq hg.symm)) hb); replace HB := uB HB hb; clear hb hbox hg; have hcz130_0 := ci BK583.out 0 0 rfl; have hcz130_1 : w129.cell? ⟨gb583, 1, none⟩ = some (.string (⟨#[]⟩ : ByteArray)) := cb BK583 1; have hcz130_2 := ci BK583.out 2 0 rfl; have hcz130_3 := ci BK583.out 3 0 rfl; have hcz130_4 := ci BK583.out 4 0 rfl; have hcz130_5 := ci BK583.out 5 0 rfl; have hfz130_0 := fun j_ : Nat => blk_frozen BK583.out j_))
                       have n0_ : Aside0 (Kd.R k26 26 ((((((w129.setCell ⟨gb583, 0, none⟩ (.int .i64 t577)).setCell ⟨gb583, 1, none⟩ (.string t578)).setCell ⟨gb583, 2, none⟩ (.int .i64 t579)).setCell ⟨gb583, 3, none⟩ (.int .i64 t580)).setCell ⟨gb583, 4, none⟩ (.int .i64 t581)).setCell ⟨gb583, 5, none⟩ (.int .i64 t582)) w.heap.size (fun k_ => some k_ ≠ (v569 : Value).ownBlock ∧ k_ ≠ gb583) (.slice Ao94 t559.length co94) t559) := ⟨by (with_reducible repeat (first | apply Kd.R_alloc | apply Kd.R_drewN | apply Kd.R_drew)); exact Kd.R_mono (Kd.R_far (p := ⟨gb583, 5, none⟩) (Kd.R_far (p := ⟨gb583, 4, none⟩) (Kd.R_far (p := ⟨gb583, 3, none⟩) (Kd.R_far (p := ⟨gb583, 2, none⟩) (Kd.R_far (p := ⟨gb583, 1, none⟩) (Kd.R_far (p := ⟨gb583, 0, none⟩) (Kd.R_mono HO_29.out (fun k_ hk => (⟨hk, hk.2⟩ : _ ∧ k_ ≠ gb583))) (fun _ hk => hk.2) (.int .i64 t577)) (fun _ hk => hk.2) (.string t578)) (fun _ hk => hk.2) (.int .i64 t579)) (fun _ hk => hk.2) (.int .i64 t580)) (fun _ hk => hk.2) (.int .i64 t581)) (fun _ hk => hk.2) (.int .i64 t582)) (fun _ hk => ⟨hk.1.1, hk.1.2⟩)⟩
                       have n1_ : Aside0 (Kd.R k26 26 ((((((w129.setCell ⟨gb583, 0, none⟩ (.int .i64 t577)).setCell ⟨gb583, 1, none⟩ (.string t578)).setCell ⟨gb583, 2, none⟩ (.int .i64 t579)).setCell ⟨gb583, 3, none⟩ (.int .i64 t580)).setCell ⟨gb583, 4, none⟩ (.int .i64 t581)).setCell ⟨gb583, 5, none⟩ (.int .i64 t582)) w.heap.size (fun k_ => some k_ ≠ (.slice Ao94 t559.length co94 : Value).ownBlock ∧ k_ ≠ gb583) v569 t566) := ⟨by (with_reducible repeat (first | apply Kd.R_alloc | apply Kd.R_drewN | apply Kd.R_drew)); exact Kd.R_mono (Kd.R_far (p := ⟨gb583, 5, none⟩) (Kd.R_far (p := ⟨gb583, 4, none⟩) (Kd.R_far (p := ⟨gb583, 3, none⟩) (Kd.R_far (p := ⟨gb583, 2, none⟩) (Kd.R_far (p := ⟨gb583, 1, none⟩) (Kd.R_far (p := ⟨gb583, 0, none⟩) (Kd.R_mono HO_34.out (fun k_ hk => (⟨hk, hk.2⟩ : _ ∧ k_ ≠ gb583))) (fun _ hk => hk.2) (.int .i64 t577)) (fun _ hk => hk.2) (.string t578)) (fun _ hk => hk.2) (.int .i64 t579)) (fun _ hk => hk.2) (.int .i64 t580)) (fun _ hk => hk.2) (.int .i64 t581)) (fun _ hk => hk.2) (.int .i64 t582)) (fun _ hk => ⟨hk.1.1, hk.1.2⟩)⟩
                       have n2_ : Aside0 (((((((w129.setCell ⟨gb583, 0, none⟩ (.int .i64 t577)).setCell ⟨gb583, 1, none⟩ (.string t578)).setCell ⟨gb583, 2, none⟩ (.int .i64 t579)).setCell ⟨gb583, 3, none⟩ (.int .i64 t580)).setCell ⟨gb583, 4, none⟩ (.int .i64 t581)).setCell ⟨gb583, 5, none⟩ (.int .i64 t582)).heap[gb583]? = some (.cells #[.int .i64 t577, .string t578, .int .i64 t579, .int .i64 t580, .int .i64 t581, .int .i64 t582] 26 (0, 0))) := ⟨by exact pW BK583⟩
                       have n3_ : Aside0 (Below w.heap.size w ((((((w129.setCell ⟨gb583, 0, none⟩ (.int .i64 t577)).setCell ⟨gb583, 1, none⟩ (.string t578)).setCell ⟨gb583, 2, none⟩ (.int .i64 t579)).setCell ⟨gb583, 3, none⟩ (.int .i64 t580)).setCell ⟨gb583, 4, none⟩ (.int .i64 t581)).setCell ⟨gb583, 5, none⟩ (.int .i64 t582))) := (aB HB)
                       (try clear HO_29)
                       (try clear HO_34)
                       (try clear BK583)
                       (try clear HB)
                       generalize ((((((w129.setCell ⟨gb583, 0, none⟩ (.int .i64 t577)).setCell ⟨gb583, 1, none⟩ (.string t578)).setCell ⟨gb583, 2, none⟩ (.int .i64 t579)).setCell ⟨gb583, 3, none⟩ (.int .i64 t580)).setCell ⟨gb583, 4, none⟩ (.int .i64 t581)).setCell ⟨gb583, 5, none⟩ (.int .i64 t582)) = w131 at n0_ n1_ n2_ n3_ ⊢
                       have HO_29 := n0_
                       have HO_34 := n1_
                       have BK583 := n2_
                       have HB := n3_
                       clear n0_ n1_ n2_ n3_
                       replace HO_29 := Aside0.mk (Kd.R_drew HO_29.out)
                       replace HO_34 := Aside0.mk (Kd.R_drew HO_34.out)
                       replace BK583 := dK BK583
                       replace HB := Aside0.mk (below_drew1 HB.out)
                       refine sA (n := 29) (S := fun w' => w'.cell? ⟨gb583, 0, none⟩ = some (.int .i64 t577) ∧ w'.cell? ⟨gb583, 1, none⟩ = some (.string t578) ∧ w'.cell? ⟨gb583, 2, none⟩ = some (.int .i64 t579) ∧ w'.cell? ⟨gb583, 3, none⟩ = some (.int .i64 t580) ∧ w'.cell? ⟨gb583, 4, none⟩ = some (.int .i64 t581) ∧ w'.cell? ⟨gb583, 5, none⟩ = some (.int .i64 t582)) (ds := []) laws_FnPermitDays.tab32 laws_FnPermitDays.bits32 #[false, false, false, false, false, false, false, false, false, false, false, false, false, false, false, false, false, false, false, false, false, false, false, false, false, false, false, false, false] ⟨cb BK583 0, cb BK583 1, cb BK583 2, cb BK583 3, cb BK583 4, cb BK583 5⟩ fun hHeld HT_ HW_ => ?_
                       generalize w131.drew = w132 at HO_29 HO_34 BK583 HB hHeld ⊢
                       refine tA 0 247 HT_ HW_ hHeld ?_
                       refine tA 2 249 HT_ HW_ hHeld ?_
                       refine oA 1 (some 248) HT_ fun K hK => ?_
                       refine rA Tryd.func17 (impl_IsPermit.calls t577 t578 t579 t580 t581 t582 t584 _ A104.out) ?_
                       intro w133 hb
                       replace HO_29 := uR HO_29 hb
                       replace HO_34 := uR HO_34 hb
                       replace BK583 := uK BK583 hb
                       replace HB := uB HB hb
                       (try clear hb)
                       (try clear hk)
                       refine hK.out _ _ ⟨cb BK583 0, cb BK583 1, cb BK583 2, cb BK583 3, cb BK583 4, cb BK583 5⟩ (fun hHeld => ?_)
                       clear hK K
                       refine nA ?_ (some 248)
                       refine oA 3 (some 250) HT_ fun K hK => ?_
                       refine rA Tryd.func15 (spec_IsPermit.calls kj91 t577 t578 t579 t580 t581 t582 t585 _ A105.out) ?_
                       intro w134 hb
                       replace HO_29 := uR HO_29 hb
                       replace HO_34 := uR HO_34 hb
                       replace BK583 := uK BK583 hb
                       replace HB := uB HB hb
                       (try clear hb)
                       (try clear hk)
                       refine hK.out _ _ ⟨cb BK583 0, cb BK583 1, cb BK583 2, cb BK583 3, cb BK583 4, cb BK583 5⟩ (fun hHeld => ?_)
                       clear hK K
                       refine nA ?_ (some 250)
                       refine pA 4 251 HT_ ?_
                       refine pA 5 252 HT_ ?_
                       refine pA 6 253 HT_ ?_
                       refine pA 7 254 HT_ ?_
                       refine pA 8 255 HT_ ?_
                       refine pU 9 256 HT_ ?_
                       refine pU 10 257 HT_ ?_
                       refine pU 11 258 HT_ ?_
                       refine pU 12 259 HT_ ?_
                       refine pU 13 260 HT_ ?_
                       refine pU 14 261 HT_ ?_
                       refine pU 15 262 HT_ ?_
                       refine pU 16 263 HT_ ?_
                       refine pU 17 264 HT_ ?_
                       refine pU 18 265 HT_ ?_
                       refine pU 19 266 HT_ ?_
                       refine pU 20 267 HT_ ?_
                       refine pU 21 268 HT_ ?_
                       refine pU 22 269 HT_ ?_
                       refine pU 23 270 HT_ ?_
                       refine pU 24 271 HT_ ?_
                       refine pU 25 272 HT_ ?_
                       refine pA 26 273 HT_ ?_
                       refine pA 27 274 HT_ ?_
                       refine pA 28 2 HT_ ?_
                       refine done_ (done_of HT_.out (by kernel_rfl)) ?_
                       try go_wp2
                       go_ret
                       exact ⟨eB, (bW HB)⟩
                     ·rw [if_neg c106] at H
                      have c106b0 : (t584 == t585) = false := by simpa using c106
                      (try (have c106b1 : decide (t584 = t585) = false := by simpa using c106))
                      (try (have c106b2 : (t584 == t585) = false := by simpa using c106))
                      (try (have c106b3 : ¬ (t584 = t585) := by simpa using c106))
                      clear c106
                      exact absurd (Option.some.inj H) (by rw [hT]; decide)
                   )).elim
                  omega
                )).elim
               omega
            )).elim
           omega
        )).elim
       omega
    )).elim
   omega
/-- THE ONE PURE STATEMENT of laws_FnPermitDays: yours. -/

def laws_FnPermitDays.Pure : Prop := ∀ (l0 : List Int), l0.length ≤ maxLen → l0.length * 1 ≤ 140737488351232 → (∀ x ∈ l0, (Lit.int .u8 x).wf = true) → ∃ k, laws_FnPermitDays.f k l0 = some true
theorem laws_FnPermitDays.walk (P : laws_FnPermitDays.Pure) (a0 : Option Addr) (len0 cap0 : Nat) (z0 : List Int) (w : World) (w0 : (a0 = none ∧ len0 = 0 ∧ cap0 = 0 ∧ z0 = []) ∨ ∃ x, a0 = some x ∧ len0 ≤ cap0 ∧ cap0 ≤ maxLen ∧ z0.length = cap0 ∧ (∀ i, i < z0.length → w.cell? (x.add i) = some (.int .u8 (z0.getD i 0))) ∧ ∀ n ∈ z0, (Lit.int .u8 n).wf = true) (y0 : len0 * 1 ≤ 140737488351232) :
  Calls Tryd.prog 13 #[.slice a0 len0 cap0] w fun e w' => e = .returned (.bool true) ∧ Below w.heap.size w w' := by
 obtain ⟨l0, rfl, hr0, hm0, hw0, hc0⟩ := ReadsInt.ofRowC w0
 obtain ⟨k, h⟩ := P l0 hm0 y0 hw0
 refine (laws_FnPermitDays.calls k _ _ l0 true w (Kd.C_of_reads (d := (0 : Int)) (h1 := fun _ => rfl) hr0) hc0 h rfl).mono ?_
 rintro e w' ⟨rfl, hd⟩
 exact ⟨rfl, hd⟩

end Go.Proofs.YtgeioccfjgpijaaDoor.QFnPermitDays
