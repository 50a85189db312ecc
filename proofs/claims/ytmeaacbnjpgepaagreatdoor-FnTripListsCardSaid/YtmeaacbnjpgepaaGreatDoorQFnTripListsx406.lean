/- Contracts of Go functions that FnTripLists reaches: the call computes what the plain function says. No condition. -/
import Derived.Test.YtmeaacbnjpgepaaGreatDoorQFnTripListsx401
namespace Go.Proofs.YtmeaacbnjpgepaaGreatDoor.QFnTripLists
open Go.RowKit Go.Proofs.YtmeaacbnjpgepaaGreatDoorW.PrintWords Go.Proofs.YtmeaacbnjpgepaaGreatDoorW.PrintLast Go.Proofs.YtmeaacbnjpgepaaGreatDoorW.PrintMore
attribute [local go_sem] max2_int min2_int max_two min_two max_three min_three max_four min_four   -- for this text's walks alone
set_option linter.unusedVariables false
set_option linter.unusedSimpArgs false

set_option maxHeartbeats 8000000 in
set_option maxRecDepth 100000 in
theorem spec_l21Make.calls_6 (k : Nat) (a0_0 a0_1 a0_2 a0_3 a0_4 a1_0 a1_1 r1 r2 r3 r4 r5 : Int) (r6 : Bool) (w : World) (h : spec_l21Make.f k a0_0 a0_1 a0_2 a0_3 a0_4 a1_0 a1_1 = some (r1, r2, r3, r4, r5, r6)) (q1 : ¬ (a1_0 = 1)) (q2 : ¬ (a1_0 = 2)) (q3 : ¬ (a1_0 = 3)) (q4 : ¬ (a1_0 = 4)) (q5 : ¬ (a1_0 = 5)) (q6 : a0_0 = 1) :
  Calls Tryz.prog 62 #[.agg #[.int .i64 a0_0, .int .i64 a0_1, .int .i64 a0_2, .int .i64 a0_3, .int .i64 a0_4], .agg #[.int .i64 a1_0, .int .i64 a1_1]] w fun e w' => e = .returned (.tuple #[.agg #[.int .i64 r1, .int .i64 r2, .int .i64 r3, .int .i64 r4, .int .i64 r5], .bool r6]) ∧ Below w.heap.size w w' := by
 have hu25 := Tryz.underlying25
 have hu70 := Tryz.underlying70
 have HB := Aside0.mk (Below.refl w.heap.size w)
 have H : (if a1_0 = 1 then (if a0_0 ≤ 1 then ((spec_l1In.f a1_1 1 (wrap64 (a0_1 - a0_2))).bind fun t159 => (if t159 = true then (some (1, a0_1, wrap64 (a0_2 + a1_1), a0_3, a0_4, decide (a0_4 < a0_3))) else (some (1, a0_1, wrap64 (a0_2 + a1_1), a0_3, a0_4, false)))) else (some (1, a0_1, wrap64 (a0_2 + a1_1), a0_3, a0_4, false))) else (if a1_0 = 2 then (if (wrap64 (a0_2 - a1_1)) = 0 then ((spec_l21In.f a0_0).bind fun t160 => (if t160 = true then ((spec_l1In.f a1_1 1 a0_2).bind fun t161 => (some (4, a0_1, wrap64 (a0_2 - a1_1), a0_3, a0_4, t161))) else (some (4, a0_1, wrap64 (a0_2 - a1_1), a0_3, a0_4, false)))) else ((spec_l21In.f a0_0).bind fun t162 => (if t162 = true then ((spec_l1In.f a1_1 1 a0_2).bind fun t163 => (some (a0_0, a0_1, wrap64 (a0_2 - a1_1), a0_3, a0_4, t163))) else (some (a0_0, a0_1, wrap64 (a0_2 - a1_1), a0_3, a0_4, false))))) else (if a1_0 = 3 then (if a0_0 = 1 then (spec_l21Make.j0 k (decide ((wrap64 (a0_4 + a1_1)) > a0_3)) a0_0 a0_1 a0_2 a0_3 a0_4 a1_0 a1_1 a0_0 a0_1 a0_2 a0_3 (wrap64 (a0_4 + a1_1))) else (spec_l21Make.j0 k false a0_0 a0_1 a0_2 a0_3 a0_4 a1_0 a1_1 a0_0 a0_1 a0_2 a0_3 (wrap64 (a0_4 + a1_1)))) else (if a1_0 = 4 then (some (3, a0_1, a0_2, a0_3, a0_4, (a0_0 == 2))) else (if a1_0 = 5 then (some (5, a0_1, a0_2, a0_3, a0_4, (a0_0 == 0))) else (if a0_0 = 1 then ((spec_l1In.f a1_1 1 (wrap64 (999 - a0_3))).bind fun t166 => (some (a0_0, a0_1, a0_2, wrap64 (a0_3 + a1_1), a0_4, t166))) else (some (a0_0, a0_1, a0_2, wrap64 (a0_3 + a1_1), a0_4, false)))))))) = some (r1, r2, r3, r4, r5, r6) := h
 clear h
 have c3 : ¬ (a1_0 = 1) := q1
 rw [if_neg c3] at H
 have c3b0 : (a1_0 == 1) = false := beq_eq_false_iff_ne.mpr c3
 have c3b1 : (a1_0 != 1) = true := bne_iff_ne.mpr c3
 have c70 : ¬ (a1_0 = 2) := q2
 rw [if_neg c70] at H
 have c70b0 : (a1_0 == 2) = false := beq_eq_false_iff_ne.mpr c70
 have c70b1 : (a1_0 != 2) = true := bne_iff_ne.mpr c70
 have c162 : ¬ (a1_0 = 3) := q3
 rw [if_neg c162] at H
 have c162b0 : (a1_0 == 3) = false := beq_eq_false_iff_ne.mpr c162
 have c162b1 : (a1_0 != 3) = true := bne_iff_ne.mpr c162
 have c210 : ¬ (a1_0 = 4) := q4
 rw [if_neg c210] at H
 have c210b0 : (a1_0 == 4) = false := beq_eq_false_iff_ne.mpr c210
 have c210b1 : (a1_0 != 4) = true := bne_iff_ne.mpr c210
 have c231 : ¬ (a1_0 = 5) := q5
 rw [if_neg c231] at H
 have c231b0 : (a1_0 == 5) = false := beq_eq_false_iff_ne.mpr c231
 have c231b1 : (a1_0 != 5) = true := bne_iff_ne.mpr c231
 have c252 : a0_0 = 1 := q6
 rw [if_pos c252] at H
 have c252b0 : (a0_0 == 1) = true := beq_iff_eq.mpr c252
 have c252b1 : (a0_0 != 1) = false := bne_eq_false_iff_eq.mpr c252
 clear c252
 replace H := bA H
 obtain ⟨t166, A253, H⟩ := H
 simp only [Option.some.injEq, Prod.mk.injEq] at H
 obtain ⟨rfl, rfl, rfl, rfl, rfl, rfl⟩ := H
 (try clear q1)
 (try clear q2)
 (try clear q3)
 (try clear q4)
 (try clear q5)
 (try clear q6)
 go_enter Tryz.func62, Tryz.ntmps62
 go_wp2
 refine wp_abs (fun W' => (W'.heap[w.heap.size]? = some (.cells #[.int .i64 a0_0, .int .i64 a0_1, .int .i64 a0_2, .int .i64 a0_3, .int .i64 a0_4] 25 (0, 0))) ∧ (W'.heap[w.heap.size + 1]? = some (.cells #[.int .i64 a1_0, .int .i64 a1_1] 70 (0, 0))) ∧ (W'.heap[w.heap.size + 1 + 1]? = some (.cells #[.int .i64 0, .int .i64 0, .int .i64 0, .int .i64 0, .int .i64 0] 25 (0, 0))) ∧ (W'.heap[w.heap.size + 1 + 1 + 1]? = some (.cells #[.int .i64 a0_0, .int .i64 a0_1, .int .i64 a0_2, .int .i64 (wrap64 (a0_3 + a1_1)), .int .i64 a0_4] 25 (0, 0))) ∧ (Below w.heap.size w W')) (boxes4 w _ _ _ _) (fun w268 hW => ?_)
 obtain ⟨m0_, m1_, m2_, m3_, m4_⟩ := hW
 generalize e3_ : w.heap.size + 1 + 1 + 1 = gb158 at m3_ ⊢
 generalize e2_ : w.heap.size + 1 + 1 = gb157 at m2_ ⊢
 generalize e1_ : w.heap.size + 1 = gb156 at m1_ ⊢
 generalize e0_ : w.heap.size = gb155 at m0_ ⊢
 have BK155 := Aside0.mk m0_
 have BK156 := Aside0.mk m1_
 have BK157 := Aside0.mk m2_
 have BK158 := Aside0.mk m3_
 have HB := Aside0.mk m4_
 have GE155 := Aside0.mk (show w.heap.size ≤ gb155 by omega)
 have NB155_156 := Aside0.mk (show gb155 ≠ gb156 by omega)
 have NB155_157 := Aside0.mk (show gb155 ≠ gb157 by omega)
 have NB155_158 := Aside0.mk (show gb155 ≠ gb158 by omega)
 have GE156 := Aside0.mk (show w.heap.size ≤ gb156 by omega)
 have NB156_155 := Aside0.mk (show gb156 ≠ gb155 by omega)
 have NB156_157 := Aside0.mk (show gb156 ≠ gb157 by omega)
 have NB156_158 := Aside0.mk (show gb156 ≠ gb158 by omega)
 have GE157 := Aside0.mk (show w.heap.size ≤ gb157 by omega)
 have NB157_155 := Aside0.mk (show gb157 ≠ gb155 by omega)
 have NB157_156 := Aside0.mk (show gb157 ≠ gb156 by omega)
 have NB157_158 := Aside0.mk (show gb157 ≠ gb158 by omega)
 have GE158 := Aside0.mk (show w.heap.size ≤ gb158 by omega)
 have NB158_155 := Aside0.mk (show gb158 ≠ gb155 by omega)
 have NB158_156 := Aside0.mk (show gb158 ≠ gb156 by omega)
 have NB158_157 := Aside0.mk (show gb158 ≠ gb157 by omega)
 clear e0_ e1_ e2_ e3_ m0_ m1_ m2_ m3_ m4_
 replace BK155 := dK BK155
 replace BK156 := dK BK156
 replace BK157 := dK BK157
 replace BK158 := dK BK158
 replace HB := Aside0.mk (below_drew1 HB.out)
 refine sA (n := 14) (S := fun w' => w'.cell? ⟨gb158, 0, none⟩ = some (.int .i64 a0_0) ∧ w'.cell? ⟨gb158, 1, none⟩ = some (.int .i64 a0_1) ∧ w'.cell? ⟨gb158, 2, none⟩ = some (.int .i64 a0_2) ∧ w'.cell? ⟨gb158, 3, none⟩ = some (.int .i64 (wrap64 (a0_3 + a1_1))) ∧ w'.cell? ⟨gb158, 4, none⟩ = some (.int .i64 a0_4) ∧ w'.cell? ⟨gb155, 0, none⟩ = some (.int .i64 a0_0) ∧ w'.cell? ⟨gb155, 1, none⟩ = some (.int .i64 a0_1) ∧ w'.cell? ⟨gb155, 2, none⟩ = some (.int .i64 a0_2) ∧ w'.cell? ⟨gb155, 3, none⟩ = some (.int .i64 a0_3) ∧ w'.cell? ⟨gb155, 4, none⟩ = some (.int .i64 a0_4) ∧ w'.cell? ⟨gb156, 0, none⟩ = some (.int .i64 a1_0) ∧ w'.cell? ⟨gb156, 1, none⟩ = some (.int .i64 a1_1)) (ds := []) spec_l21Make.tab24 spec_l21Make.bits24 #[false, false, false, false, false, false, false, false, false, false, false, false, false, false] ⟨cb BK158 0, cb BK158 1, cb BK158 2, cb BK158 3, cb BK158 4, cb BK155 0, cb BK155 1, cb BK155 2, cb BK155 3, cb BK155 4, cb BK156 0, cb BK156 1⟩ fun hHeld HT_ HW_ => ?_
 generalize w268.drew = w269 at BK155 BK156 BK157 BK158 HB hHeld ⊢
 refine pA 1 110 HT_ ?_
 refine tA 0 109 HT_ HW_ hHeld ?_
 refine tA 2 111 HT_ HW_ hHeld ?_
 refine pA 3 112 HT_ ?_
 refine pA 4 113 HT_ ?_
 refine pA 5 114 HT_ ?_
 refine pA 7 116 HT_ ?_
 refine tA 6 115 HT_ HW_ hHeld ?_
 refine tA 8 117 HT_ HW_ hHeld ?_
 refine pA 9 118 HT_ ?_
 refine oA 10 (some 119) HT_ fun K hK => ?_
 refine rA Tryz.func45 (spec_l1In.calls a1_1 1 (wrap64 (999 - a0_3)) t166 _ A253.out) ?_
 rintro _ ⟨nd, rfl⟩
 refine hK.out _ _ ⟨cb BK158 0, cb BK158 1, cb BK158 2, cb BK158 3, cb BK158 4, cb BK155 0, cb BK155 1, cb BK155 2, cb BK155 3, cb BK155 4, cb BK156 0, cb BK156 1⟩ (fun hHeld => ?_)
 clear hK K
 refine nA ?_ (some 119)
 refine pA 11 120 HT_ ?_
 refine oA 12 none HT_ fun K hK => ?_
 have hs270 := ci BK157.out 0 0 rfl
 have hfs270 := blk_frozen BK157.out 0
 have hns270_0 := NB155_157.out
 have hns270_1 := NB156_157.out
 have hns270_3 := NB158_157.out
 have hms270_0 := NB157_155.out
 have hms270_1 := NB157_156.out
 have hms270_3 := NB157_158.out
 have hs271 := ci BK157.out 1 0 rfl
 have hfs271 := blk_frozen BK157.out 1
 have hs272 := ci BK157.out 2 0 rfl
 have hfs272 := blk_frozen BK157.out 2
 have hs273 := ci BK157.out 3 0 rfl
 have hfs273 := blk_frozen BK157.out 3
 have hs274 := ci BK157.out 4 0 rfl
 have hfs274 := blk_frozen BK157.out 4
 refine skip_ (w1 := ?_) (by rfl) rfl ?_ ?_
 rotate_left
 ·go_simp
  rfl
 refine hK.out _ _ (aF hHeld) (fun hHeld => ?_)
 clear hK K
 refine pA 13 5 HT_ ?_
 refine done_ (done_of HT_.out (by kernel_rfl)) ?_
 try go_wp2
 refine bodyPost_ret (results_ct rfl _ _ gb157 25 #[.int .i64 a0_0, .int .i64 a0_1, .int .i64 a0_2, .int .i64 (wrap64 (a0_3 + a1_1)), .int .i64 a0_4] (0, 0) _ rfl (by exact pW BK157) Tryz.underlying25 rfl (by kernel_rfl)) rfl ?_
 exact ⟨eB, (bW HB)⟩

end Go.Proofs.YtmeaacbnjpgepaaGreatDoor.QFnTripLists
