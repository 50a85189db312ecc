/- Contracts of Go functions that FnTripLists reaches: the call computes what the plain function says. No condition. -/
import Derived.Test.YtmeaacbnjpgepaaGreatDoorQFnTripListsx402
import Derived.Test.YtmeaacbnjpgepaaGreatDoorQFnTripListsx403
import Derived.Test.YtmeaacbnjpgepaaGreatDoorQFnTripListsx404
import Derived.Test.YtmeaacbnjpgepaaGreatDoorQFnTripListsx405
import Derived.Test.YtmeaacbnjpgepaaGreatDoorQFnTripListsx406
import Derived.Test.YtmeaacbnjpgepaaGreatDoorQFnTripListsx407
namespace Go.Proofs.YtmeaacbnjpgepaaGreatDoor.QFnTripLists
open Go.RowKit Go.Proofs.YtmeaacbnjpgepaaGreatDoorW.PrintWords Go.Proofs.YtmeaacbnjpgepaaGreatDoorW.PrintLast Go.Proofs.YtmeaacbnjpgepaaGreatDoorW.PrintMore
attribute [local go_sem] max2_int min2_int max_two min_two max_three min_three max_four min_four   -- for this text's walks alone
set_option linter.unusedVariables false
set_option linter.unusedSimpArgs false

set_option maxHeartbeats 8000000 in
set_option maxRecDepth 100000 in
theorem spec_l21Make.calls (k : Nat) (a0_0 a0_1 a0_2 a0_3 a0_4 a1_0 a1_1 r1 r2 r3 r4 r5 : Int) (r6 : Bool) (w : World) (h : spec_l21Make.f k a0_0 a0_1 a0_2 a0_3 a0_4 a1_0 a1_1 = some (r1, r2, r3, r4, r5, r6)) :
  Calls Tryz.prog 62 #[.agg #[.int .i64 a0_0, .int .i64 a0_1, .int .i64 a0_2, .int .i64 a0_3, .int .i64 a0_4], .agg #[.int .i64 a1_0, .int .i64 a1_1]] w fun e w' => e = .returned (.tuple #[.agg #[.int .i64 r1, .int .i64 r2, .int .i64 r3, .int .i64 r4, .int .i64 r5], .bool r6]) ∧ Below w.heap.size w w' := by
 by_cases z1 : a1_0 = 1
 ·exact spec_l21Make.calls_1 k a0_0 a0_1 a0_2 a0_3 a0_4 a1_0 a1_1 r1 r2 r3 r4 r5 r6 w h z1
 by_cases z2 : a1_0 = 2
 ·exact spec_l21Make.calls_2 k a0_0 a0_1 a0_2 a0_3 a0_4 a1_0 a1_1 r1 r2 r3 r4 r5 r6 w h z1 z2
 by_cases z3 : a1_0 = 3
 ·exact spec_l21Make.calls_3 k a0_0 a0_1 a0_2 a0_3 a0_4 a1_0 a1_1 r1 r2 r3 r4 r5 r6 w h z1 z2 z3
 by_cases z4 : a1_0 = 4
 ·exact spec_l21Make.calls_4 k a0_0 a0_1 a0_2 a0_3 a0_4 a1_0 a1_1 r1 r2 r3 r4 r5 r6 w h z1 z2 z3 z4
 by_cases z5 : a1_0 = 5
 ·exact spec_l21Make.calls_5 k a0_0 a0_1 a0_2 a0_3 a0_4 a1_0 a1_1 r1 r2 r3 r4 r5 r6 w h z1 z2 z3 z4 z5
 by_cases z6 : a0_0 = 1
 ·exact spec_l21Make.calls_6 k a0_0 a0_1 a0_2 a0_3 a0_4 a1_0 a1_1 r1 r2 r3 r4 r5 r6 w h z1 z2 z3 z4 z5 z6
 exact spec_l21Make.calls_7 k a0_0 a0_1 a0_2 a0_3 a0_4 a1_0 a1_1 r1 r2 r3 r4 r5 r6 w h z1 z2 z3 z4 z5 z6

end Go.Proofs.YtmeaacbnjpgepaaGreatDoor.QFnTripLists
