/- Contracts of Go functions that FnTripLists reaches: the call computes what the plain function says. No condition. -/
import Derived.Test.YtmeaacbnjpgepaaGreatDoorQFnTripListsx0
import Derived.Test.YtmeaacbnjpgepaaGreatDoorQFnTripListsx2
namespace Go.Proofs.YtmeaacbnjpgepaaGreatDoor.QFnTripLists
open Go.RowKit Go.Proofs.YtmeaacbnjpgepaaGreatDoorW.PrintWords Go.Proofs.YtmeaacbnjpgepaaGreatDoorW.PrintLast Go.Proofs.YtmeaacbnjpgepaaGreatDoorW.PrintMore
attribute [local go_sem] max2_int min2_int max_two min_two max_three min_three max_four min_four   -- for this text's walks alone
set_option linter.unusedVariables false
set_option linter.unusedSimpArgs false

/-! ### spec_l21Make: function 62 -/
def spec_l21Make.j0 : Nat → Bool → Int → Int → Int → Int → Int → Int → Int → Int → Int → Int → Int → Int → Option (Int × Int × Int × Int × Int × Bool)
 | 0, _, _, _, _, _, _, _, _, _, _, _, _, _ => none
 | k + 1, x80, x156000, x156001, x156002, x156003, x156004, x157000, x157001, x159000, x159001, x159002, x159003, x159004 => if x80 = true then ((spec_l1In.f x157001 1 (wrap64 (999 - x156004))).bind fun t164 => (some (2, x159001, x159002, x159003, x159004, t164))) else ((spec_l1In.f x157001 1 (wrap64 (999 - x156004))).bind fun t165 => (some (x159000, x159001, x159002, x159003, x159004, t165)))
def spec_l21Make.f (k : Nat) (a0_0 a0_1 a0_2 a0_3 a0_4 a1_0 a1_1 : Int) : Option (Int × Int × Int × Int × Int × Bool) := if a1_0 = 1 then (if a0_0 ≤ 1 then ((spec_l1In.f a1_1 1 (wrap64 (a0_1 - a0_2))).bind fun t159 => (if t159 = true then (some (1, a0_1, wrap64 (a0_2 + a1_1), a0_3, a0_4, decide (a0_4 < a0_3))) else (some (1, a0_1, wrap64 (a0_2 + a1_1), a0_3, a0_4, false)))) else (some (1, a0_1, wrap64 (a0_2 + a1_1), a0_3, a0_4, false))) else (if a1_0 = 2 then (if (wrap64 (a0_2 - a1_1)) = 0 then ((spec_l21In.f a0_0).bind fun t160 => (if t160 = true then ((spec_l1In.f a1_1 1 a0_2).bind fun t161 => (some (4, a0_1, wrap64 (a0_2 - a1_1), a0_3, a0_4, t161))) else (some (4, a0_1, wrap64 (a0_2 - a1_1), a0_3, a0_4, false)))) else ((spec_l21In.f a0_0).bind fun t162 => (if t162 = true then ((spec_l1In.f a1_1 1 a0_2).bind fun t163 => (some (a0_0, a0_1, wrap64 (a0_2 - a1_1), a0_3, a0_4, t163))) else (some (a0_0, a0_1, wrap64 (a0_2 - a1_1), a0_3, a0_4, false))))) else (if a1_0 = 3 then (if a0_0 = 1 then (spec_l21Make.j0 k (decide ((wrap64 (a0_4 + a1_1)) > a0_3)) a0_0 a0_1 a0_2 a0_3 a0_4 a1_0 a1_1 a0_0 a0_1 a0_2 a0_3 (wrap64 (a0_4 + a1_1))) else (spec_l21Make.j0 k false a0_0 a0_1 a0_2 a0_3 a0_4 a1_0 a1_1 a0_0 a0_1 a0_2 a0_3 (wrap64 (a0_4 + a1_1)))) else (if a1_0 = 4 then (some (3, a0_1, a0_2, a0_3, a0_4, (a0_0 == 2))) else (if a1_0 = 5 then (some (5, a0_1, a0_2, a0_3, a0_4, (a0_0 == 0))) else (if a0_0 = 1 then ((spec_l1In.f a1_1 1 (wrap64 (999 - a0_3))).bind fun t166 => (some (a0_0, a0_1, a0_2, wrap64 (a0_3 + a1_1), a0_4, t166))) else (some (a0_0, a0_1, a0_2, wrap64 (a0_3 + a1_1), a0_4, false)))))))
theorem spec_l21Make.mono_l : ∀ k, (∀ y0 y1 y2 y3 y4 y5 y6 y7 y8 y9 y10 y11 y12, LeO (spec_l21Make.j0 k y0 y1 y2 y3 y4 y5 y6 y7 y8 y9 y10 y11 y12) (spec_l21Make.j0 (k + 1) y0 y1 y2 y3 y4 y5 y6 y7 y8 y9 y10 y11 y12))
 | 0 => fun _ _ _ _ _ _ _ _ _ _ _ _ _ r h => by simp [spec_l21Make.j0] at h
 | k + 1 => by
  have ih0 := spec_l21Make.mono_l k
  ·intro y0 y1 y2 y3 y4 y5 y6 y7 y8 y9 y10 y11 y12
   unfold spec_l21Make.j0
   repeat' with_reducible first | apply ih0 | exact LeO.refl _ | exact LeO.none _ | refine LeO.ite ?_ ?_ | refine LeO.bind ?_ (fun _ => ?_)
theorem spec_l21Make.mono : ∀ a0 a1 a2 a3 a4 a5 a6 k, LeO (spec_l21Make.f k a0 a1 a2 a3 a4 a5 a6) (spec_l21Make.f (k + 1) a0 a1 a2 a3 a4 a5 a6) := by
 intro a0 a1 a2 a3 a4 a5 a6 k
 have ih0 := spec_l21Make.mono_l k
 unfold spec_l21Make.f
 repeat' with_reducible first | apply ih0 | exact LeO.refl _ | exact LeO.none _ | refine LeO.ite ?_ ?_ | refine LeO.bind ?_ (fun _ => ?_)
def spec_l21Make.T6 : Bool × List (List Nat × List Nat) := (true, [([], []), ([], []), ([1], [1]), ([2], [2]), ([3], [3]), ([4], [4]), ([5, 4], [4, 5]), ([4], [4]), ([7, 4], [4, 7]), ([4], [4]), ([9, 4], [4, 9]), ([8, 10, 4], [4, 8, 10]), ([6, 11, 4, 4], [4, 6, 11]), ([4, 12], [4, 12]), ([13, 12], [13]), ([14], [14]), ([15, 14], [14, 15]), ([14], [14]), ([17, 14], [14, 17]), ([16, 18, 14], [14, 16, 18]), ([14, 19], [14, 19]), ([0, 14, 0], [0]), ([20, 21, 0, 1, 2, 3, 4, 5, 6, 7, 8, 9, 10, 11, 12, 13, 14, 15, 16, 17, 18, 19, 20, 21], [20])])
def spec_l21Make.B6 : List Nat := [0, 0, 2, 6, 14, 30, 62, 30, 158, 30, 542, 1950, 4094, 8190, 16382, 32766, 65534, 32766, 163838, 524286, 1048574, 32767, 4194303]
theorem spec_l21Make.tab6 : rtab .any (opsOf Tryz.f62 6) = spec_l21Make.T6 := by kernel_rfl
theorem spec_l21Make.bits6 : waitsOk spec_l21Make.T6.2 spec_l21Make.B6 = true := by kernel_rfl
def spec_l21Make.T11 : Bool × List (List Nat × List Nat) := (true, [([], []), ([], []), ([1], [1]), ([2], [2]), ([3, 3], [3]), ([4], [4]), ([5, 4], [4, 5]), ([4], [4]), ([7, 4], [4, 7]), ([6, 8, 4, 4], [4, 6, 8]), ([4, 9], [4, 9]), ([0, 9, 0], [0]), ([10, 11, 0, 1, 2, 3, 4, 5, 6, 7, 8, 9, 10, 11], [10])])
def spec_l21Make.B11 : List Nat := [0, 0, 2, 6, 14, 30, 62, 30, 158, 510, 1022, 1023, 4095]
theorem spec_l21Make.tab11 : rtab .any (opsOf Tryz.f62 11) = spec_l21Make.T11 := by kernel_rfl
theorem spec_l21Make.bits11 : waitsOk spec_l21Make.T11.2 spec_l21Make.B11 = true := by kernel_rfl
def spec_l21Make.T16 : Bool × List (List Nat × List Nat) := (true, [([], []), ([], []), ([1], [1]), ([], []), ([3], [3]), ([4], [4]), ([2, 5], [2, 5]), ([0, 6, 0], [0]), ([6, 7, 0, 1, 2, 3, 4, 5, 6, 7], [6])])
def spec_l21Make.B16 : List Nat := [0, 0, 2, 0, 8, 24, 62, 127, 255]
theorem spec_l21Make.tab16 : rtab .any (opsOf Tryz.f62 16) = spec_l21Make.T16 := by kernel_rfl
theorem spec_l21Make.bits16 : waitsOk spec_l21Make.T16.2 spec_l21Make.B16 = true := by kernel_rfl
def spec_l21Make.T24 : Bool × List (List Nat × List Nat) := (true, [([], []), ([], []), ([1], [1]), ([2], [2]), ([3], [3]), ([4], [4]), ([5, 4], [4, 5]), ([4], [4]), ([7, 4], [4, 7]), ([8, 4], [4, 8]), ([6, 9, 4, 4], [4, 6, 9]), ([4, 10], [4, 10]), ([0, 10, 0], [0]), ([11, 12, 0, 1, 2, 3, 4, 5, 6, 7, 8, 9, 10, 11, 12], [11])])
def spec_l21Make.B24 : List Nat := [0, 0, 2, 6, 14, 30, 62, 30, 158, 414, 1022, 2046, 2047, 8191]
theorem spec_l21Make.tab24 : rtab .any (opsOf Tryz.f62 24) = spec_l21Make.T24 := by kernel_rfl
theorem spec_l21Make.bits24 : waitsOk spec_l21Make.T24.2 spec_l21Make.B24 = true := by kernel_rfl

end Go.Proofs.YtmeaacbnjpgepaaGreatDoor.QFnTripLists
