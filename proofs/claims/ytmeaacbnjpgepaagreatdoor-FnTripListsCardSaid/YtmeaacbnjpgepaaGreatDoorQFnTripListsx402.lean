/- Contracts of Go functions that FnTripLists reaches: the call computes what the plain function says. No condition. -/
import Derived.Test.YtmeaacbnjpgepaaGreatDoorQFnTripListsx401
namespace Go.Proofs.YtmeaacbnjpgepaaGreatDoor.QFnTripLists
open Go.RowKit Go.Proofs.YtmeaacbnjpgepaaGreatDoorW.PrintWords Go.Proofs.YtmeaacbnjpgepaaGreatDoorW.PrintLast Go.Proofs.YtmeaacbnjpgepaaGreatDoorW.PrintMore
attribute [local go_sem] max2_int min2_int max_two min_two max_three min_three max_four min_four   -- for this text's walks alone
set_option linter.unusedVariables false
set_option linter.unusedSimpArgs false

set_option maxHeartbeats 8000000 in
set_option maxRecDepth 100000 in
theorem spec_l21Make.calls_1 (k : Nat) (a0_0 a0_1 a0_2 a0_3 a0_4 a1_0 a1_1 r1 r2 r3 r4 r5 : Int) (r6 : Bool) (w : World) (h : spec_l21Make.f k a0_0 a0_1 a0_2 a0_3 a0_4 a1_0 a1_1 = some (r1, r2, r3, r4, r5, r6)) (q1 : a1_0 = 1) :
  Calls Tryz.prog 62 #[.agg #[.int .i64 a0_0, .int .i64 a0_1, .int .i64 a0_2, .int .i64 a0_3, .int .i64 a0_4], .agg #[.int .i64 a1_0, .int .i64 a1_1]] w fun e w' => e = .returned (.tuple #[.agg #[.int .i64 r1, .int .i64 r2, .int .i64 r3, .int .i64 r4, .int .i64 r5], .bool r6]) ∧ Below w.heap.size w w' := by
 have hu25 := Tryz.underlying25
 have hu70 := Tryz.underlying70
 have HB := Aside0.mk (Below.refl w.heap.size w)
 have H : (if a1_0 = 1 then (if a0_0 ≤ 1 then ((spec_l1In.f a1_1 1 (wrap64 (a0_1 - a0_2))).bind fun t159 => (if t159 = true then (some (1, a0_1, wrap64 (a0_2 + a1_1), a0_3, a0_4, decide (a0_4 < a0_3))) else (some (1, a0_1, wrap64 (a0_2 + a1_1), a0_3, a0_4, false)))) else (some (1, a0_1, wrap64 (a0_2 + a1_1), a0_3, a0_4, false))) else (if a1_0 = 2 then (if (wrap64 (a0_2 - a1_1)) = 0 then ((spec_l21In.f a0_0).bind fun t160 => (if t160 = true then ((spec_l1In.f a1_1 1 a0_2).bind fun t161 => (some (4, a0_1, wrap64 (a0_2 - a1_1), a0_3, a0_4, t161))) else (some (4, a0_1, wrap64 (a0_2 - a1_1), a0_3, a0_4, false)))) else ((spec_l21In.f a0_0).bind fun t162 => (if t162 = true then ((spec_l1In.f a1_1 1 a0_2).bind fun t163 => (some (a0_0, a0_1, wrap64 (a0_2 - a1_1), a0_3, a0_4, t163))) else (some (a0_0, a0_1, wrap64 (a0_2 - a1_1), a0_3, a0_4, false))))) else (if a1_0 = 3 then (if a0_0 = 1 then (spec_l21Make.j0 k (decide ((wrap64 (a0_4 + a1_1)) > a0_3)) a0_0 a0_1 a0_2 a0_3 a0_4 a1_0 a1_1 a0_0 a0_1 a0_2 a0_3 (wrap64 (a0_4 + a1_1))) else (spec_l21Make.j0 k false a0_0 a0_1 a0_2 a0_3 a0_4 a1_0 a1_1 a0_0 a0_1 a0_2 a0_3 (wrap64 (a0_4 + a1_1)))) else (if a1_0 = 4 then (some (3, a0_1, a0_2, a0_3, a0_4, (a0_0 == 2))) else (if a1_0 = 5 then (some (5, a0_1, a0_2, a0_3, a0_4, (a0_0 == 0))) else (if a0_0 = 1 then ((spec_l1In.f a1_1 1 (wrap64 (999 - a0_3))).bind fun t166 => (some (a0_0, a0_1, a0_2, wrap64 (a0_3 + a1_1), a0_4, t166))) else (some (a0_0, a0_1, a0_2, wrap64 (a0_3 + a1_1), a0_4, false)))))))) = some (r1, r2, r3, r4, r5, r6) := h
 clear h
 have c3 : a1_0 = 1 := q1
 rw [if_pos c3] at H
 have c3b0 : (a1_0 == 1) = true := beq_iff_eq.mpr c3
 have c3b1 : (a1_0 != 1) = false := bne_eq_false_iff_eq.mpr c3
 clear c3
 replace H := ifD H
 rcases H with ⟨H, -, c4b0⟩ | ⟨H, -, c4b0⟩
 ·replace H := bA H
  obtain ⟨t159, A5, H⟩ := H
  rcases Bool.eq_false_or_eq_true t159 with rfl | rfl
  ·replace H := iT rfl H
   simp only [Option.some.injEq, Prod.mk.injEq] at H
   obtain ⟨rfl, rfl, rfl, rfl, rfl, rfl⟩ := H
   (try clear q1)
   go_enter Tryz.func62, Tryz.ntmps62
   go_wp2
   refine wp_abs (fun W' => (W'.heap[w.heap.size]? = some (.cells #[.int .i64 a0_0, .int .i64 a0_1, .int .i64 a0_2, .int .i64 a0_3, .int .i64 a0_4] 25 (0, 0))) ∧ (W'.heap[w.heap.size + 1]? = some (.cells #[.int .i64 a1_0, .int .i64 a1_1] 70 (0, 0))) ∧ (W'.heap[w.heap.size + 1 + 1]? = some (.cells #[.int .i64 0, .int .i64 0, .int .i64 0, .int .i64 0, .int .i64 0] 25 (0, 0))) ∧ (W'.heap[w.heap.size + 1 + 1 + 1]? = some (.cells #[.int .i64 1, .int .i64 a0_1, .int .i64 (wrap64 (a0_2 + a1_1)), .int .i64 a0_3, .int .i64 a0_4] 25 (0, 0))) ∧ (Below w.heap.size w W')) (boxes4 w _ _ _ _) (fun w21 hW => ?_)
   obtain ⟨m0_, m1_, m2_, m3_, m4_⟩ := hW
   generalize e3_ : w.heap.size + 1 + 1 + 1 = gb158 at m3_ ⊢
   generalize e2_ : w.heap.size + 1 + 1 = gb157 at m2_ ⊢
   generalize e1_ : w.heap.size + 1 = gb156 at m1_ ⊢
   generalize e0_ : w.heap.size = gb155 at m0_ ⊢
   have BK155 := Aside0.mk m0_
   have BK156 := Aside0.mk m1_
   have BK157 := Aside0.mk m2_
   have BK158 := Aside0.mk m3_
   have HB := Aside0.mk m4_
   have GE155 := Aside0.mk (show w.heap.size ≤ gb155 by omega)
   have NB155_156 := Aside0.mk (show gb155 ≠ gb156 by omega)
   have NB155_157 := Aside0.mk (show gb155 ≠ gb157 by omega)
   have NB155_158 := Aside0.mk (show gb155 ≠ gb158 by omega)
   have GE156 := Aside0.mk (show w.heap.size ≤ gb156 by omega)
   have NB156_155 := Aside0.mk (show gb156 ≠ gb155 by omega)
   have NB156_157 := Aside0.mk (show gb156 ≠ gb157 by omega)
   have NB156_158 := Aside0.mk (show gb156 ≠ gb158 by omega)
   have GE157 := Aside0.mk (show w.heap.size ≤ gb157 by omega)
   have NB157_155 := Aside0.mk (show gb157 ≠ gb155 by omega)
   have NB157_156 := Aside0.mk (show gb157 ≠ gb156 by omega)
   have NB157_158 := Aside0.mk (show gb157 ≠ gb158 by omega)
   have GE158 := Aside0.mk (show w.heap.size ≤ gb158 by omega)
   have NB158_155 := Aside0.mk (show gb158 ≠ gb155 by omega)
   have NB158_156 := Aside0.mk (show gb158 ≠ gb156 by omega)
   have NB158_157 := Aside0.mk (show gb158 ≠ gb157 by omega)
   clear e0_ e1_ e2_ e3_ m0_ m1_ m2_ m3_ m4_
   replace BK155 := dK BK155
   replace BK156 := dK BK156
   replace BK157 := dK BK157
   replace BK158 := dK BK158
   replace HB := Aside0.mk (below_drew1 HB.out)
   refine sA (n := 23) (S := fun w' => w'.cell? ⟨gb158, 0, none⟩ = some (.int .i64 1) ∧ w'.cell? ⟨gb158, 1, none⟩ = some (.int .i64 a0_1) ∧ w'.cell? ⟨gb158, 2, none⟩ = some (.int .i64 (wrap64 (a0_2 + a1_1))) ∧ w'.cell? ⟨gb158, 3, none⟩ = some (.int .i64 a0_3) ∧ w'.cell? ⟨gb158, 4, none⟩ = some (.int .i64 a0_4) ∧ w'.cell? ⟨gb155, 0, none⟩ = some (.int .i64 a0_0) ∧ w'.cell? ⟨gb155, 1, none⟩ = some (.int .i64 a0_1) ∧ w'.cell? ⟨gb155, 2, none⟩ = some (.int .i64 a0_2) ∧ w'.cell? ⟨gb155, 3, none⟩ = some (.int .i64 a0_3) ∧ w'.cell? ⟨gb155, 4, none⟩ = some (.int .i64 a0_4) ∧ w'.cell? ⟨gb156, 0, none⟩ = some (.int .i64 a1_0) ∧ w'.cell? ⟨gb156, 1, none⟩ = some (.int .i64 a1_1)) (ds := []) spec_l21Make.tab6 spec_l21Make.bits6 #[false, false, false, false, false, false, false, false, false, false, false, false, false, false, false, false, false, false, false, false, false, false, false] ⟨cb BK158 0, cb BK158 1, cb BK158 2, cb BK158 3, cb BK158 4, cb BK155 0, cb BK155 1, cb BK155 2, cb BK155 3, cb BK155 4, cb BK156 0, cb BK156 1⟩ fun hHeld HT_ HW_ => ?_
   generalize w21.drew = w22 at BK155 BK156 BK157 BK158 HB hHeld ⊢
   refine pA 1 20 HT_ ?_
   refine tA 0 19 HT_ HW_ hHeld ?_
   refine tA 2 21 HT_ HW_ hHeld ?_
   refine pA 3 22 HT_ ?_
   refine pA 4 23 HT_ ?_
   refine pA 5 24 HT_ ?_
   refine pA 7 26 HT_ ?_
   refine pA 9 28 HT_ ?_
   refine tA 6 25 HT_ HW_ hHeld ?_
   refine tA 8 27 HT_ HW_ hHeld ?_
   refine tA 10 29 HT_ HW_ hHeld ?_
   refine pA 11 30 HT_ ?_
   refine oA 12 (some 31) HT_ fun K hK => ?_
   refine rA Tryz.func45 (spec_l1In.calls a1_1 1 (wrap64 (a0_1 - a0_2)) true _ A5.out) ?_
   rintro _ ⟨nd, rfl⟩
   refine hK.out _ _ ⟨cb BK158 0, cb BK158 1, cb BK158 2, cb BK158 3, cb BK158 4, cb BK155 0, cb BK155 1, cb BK155 2, cb BK155 3, cb BK155 4, cb BK156 0, cb BK156 1⟩ (fun hHeld => ?_)
   clear hK K
   refine nA ?_ (some 31)
   refine pA 13 32 HT_ ?_
   refine pA 14 33 HT_ ?_
   refine pA 15 34 HT_ ?_
   refine pA 17 36 HT_ ?_
   refine tA 16 35 HT_ HW_ hHeld ?_
   refine tA 18 37 HT_ HW_ hHeld ?_
   refine pA 19 38 HT_ ?_
   refine pA 20 39 HT_ ?_
   refine oA 21 none HT_ fun K hK => ?_
   have hs23 := ci BK157.out 0 0 rfl
   have hfs23 := blk_frozen BK157.out 0
   have hns23_0 := NB155_157.out
   have hns23_1 := NB156_157.out
   have hns23_3 := NB158_157.out
   have hms23_0 := NB157_155.out
   have hms23_1 := NB157_156.out
   have hms23_3 := NB157_158.out
   have hs24 := ci BK157.out 1 0 rfl
   have hfs24 := blk_frozen BK157.out 1
   have hs25 := ci BK157.out 2 0 rfl
   have hfs25 := blk_frozen BK157.out 2
   have hs26 := ci BK157.out 3 0 rfl
   have hfs26 := blk_frozen BK157.out 3
   have hs27 := ci BK157.out 4 0 rfl
   have hfs27 := blk_frozen BK157.out 4
   refine skip_ (w1 := ?_) (by rfl) rfl ?_ ?_
   rotate_left
   ·go_simp
    rfl
   refine hK.out _ _ (aF hHeld) (fun hHeld => ?_)
   clear hK K
   refine pA 22 5 HT_ ?_
   refine done_ (done_of HT_.out (by kernel_rfl)) ?_
   try go_wp2
   refine bodyPost_ret (results_ct rfl _ _ gb157 25 #[.int .i64 1, .int .i64 a0_1, .int .i64 (wrap64 (a0_2 + a1_1)), .int .i64 a0_3, .int .i64 a0_4] (0, 0) _ rfl (by exact pW BK157) Tryz.underlying25 rfl (by kernel_rfl)) rfl ?_
   exact ⟨eB, (bW HB)⟩
  ·replace H := iF (by decide) H
   simp only [Option.some.injEq, Prod.mk.injEq] at H
   obtain ⟨rfl, rfl, rfl, rfl, rfl, rfl⟩ := H
   (try clear q1)
   go_enter Tryz.func62, Tryz.ntmps62
   go_wp2
   refine wp_abs (fun W' => (W'.heap[w.heap.size]? = some (.cells #[.int .i64 a0_0, .int .i64 a0_1, .int .i64 a0_2, .int .i64 a0_3, .int .i64 a0_4] 25 (0, 0))) ∧ (W'.heap[w.heap.size + 1]? = some (.cells #[.int .i64 a1_0, .int .i64 a1_1] 70 (0, 0))) ∧ (W'.heap[w.heap.size + 1 + 1]? = some (.cells #[.int .i64 0, .int .i64 0, .int .i64 0, .int .i64 0, .int .i64 0] 25 (0, 0))) ∧ (W'.heap[w.heap.size + 1 + 1 + 1]? = some (.cells #[.int .i64 1, .int .i64 a0_1, .int .i64 (wrap64 (a0_2 + a1_1)), .int .i64 a0_3, .int .i64 a0_4] 25 (0, 0))) ∧ (Below w.heap.size w W')) (boxes4 w _ _ _ _) (fun w42 hW => ?_)
   obtain ⟨m0_, m1_, m2_, m3_, m4_⟩ := hW
   generalize e3_ : w.heap.size + 1 + 1 + 1 = gb158 at m3_ ⊢
   generalize e2_ : w.heap.size + 1 + 1 = gb157 at m2_ ⊢
   generalize e1_ : w.heap.size + 1 = gb156 at m1_ ⊢
   generalize e0_ : w.heap.size = gb155 at m0_ ⊢
   have BK155 := Aside0.mk m0_
   have BK156 := Aside0.mk m1_
   have BK157 := Aside0.mk m2_
   have BK158 := Aside0.mk m3_
   have HB := Aside0.mk m4_
   have GE155 := Aside0.mk (show w.heap.size ≤ gb155 by omega)
   have NB155_156 := Aside0.mk (show gb155 ≠ gb156 by omega)
   have NB155_157 := Aside0.mk (show gb155 ≠ gb157 by omega)
   have NB155_158 := Aside0.mk (show gb155 ≠ gb158 by omega)
   have GE156 := Aside0.mk (show w.heap.size ≤ gb156 by omega)
   have NB156_155 := Aside0.mk (show gb156 ≠ gb155 by omega)
   have NB156_157 := Aside0.mk (show gb156 ≠ gb157 by omega)
   have NB156_158 := Aside0.mk (show gb156 ≠ gb158 by omega)
   have GE157 := Aside0.mk (show w.heap.size ≤ gb157 by omega)
   have NB157_155 := Aside0.mk (show gb157 ≠ gb155 by omega)
   have NB157_156 := Aside0.mk (show gb157 ≠ gb156 by omega)
   have NB157_158 := Aside0.mk (show gb157 ≠ gb158 by omega)
   have GE158 := Aside0.mk (show w.heap.size ≤ gb158 by omega)
   have NB158_155 := Aside0.mk (show gb158 ≠ gb155 by omega)
   have NB158_156 := Aside0.mk (show gb158 ≠ gb156 by omega)
   have NB158_157 := Aside0.mk (show gb158 ≠ gb157 by omega)
   clear e0_ e1_ e2_ e3_ m0_ m1_ m2_ m3_ m4_
   replace BK155 := dK BK155
   replace BK156 := dK BK156
   replace BK157 := dK BK157
   replace BK158 := dK BK158
   replace HB := Aside0.mk (below_drew1 HB.out)
   refine sA (n := 23) (S := fun w' => w'.cell? ⟨gb158, 0, none⟩ = some (.int .i64 1) ∧ w'.cell? ⟨gb158, 1, none⟩ = some (.int .i64 a0_1) ∧ w'.cell? ⟨gb158, 2, none⟩ = some (.int .i64 (wrap64 (a0_2 + a1_1))) ∧ w'.cell? ⟨gb158, 3, none⟩ = some (.int .i64 a0_3) ∧ w'.cell? ⟨gb158, 4, none⟩ = some (.int .i64 a0_4) ∧ w'.cell? ⟨gb155, 0, none⟩ = some (.int .i64 a0_0) ∧ w'.cell? ⟨gb155, 1, none⟩ = some (.int .i64 a0_1) ∧ w'.cell? ⟨gb155, 2, none⟩ = some (.int .i64 a0_2) ∧ w'.cell? ⟨gb155, 3, none⟩ = some (.int .i64 a0_3) ∧ w'.cell? ⟨gb155, 4, none⟩ = some (.int .i64 a0_4) ∧ w'.cell? ⟨gb156, 0, none⟩ = some (.int .i64 a1_0) ∧ w'.cell? ⟨gb156, 1, none⟩ = some (.int .i64 a1_1)) (ds := []) spec_l21Make.tab6 spec_l21Make.bits6 #[false, false, false, false, false, false, false, false, false, false, false, false, false, false, false, false, false, false, false, false, false, false, false] ⟨cb BK158 0, cb BK158 1, cb BK158 2, cb BK158 3, cb BK158 4, cb BK155 0, cb BK155 1, cb BK155 2, cb BK155 3, cb BK155 4, cb BK156 0, cb BK156 1⟩ fun hHeld HT_ HW_ => ?_
   generalize w42.drew = w43 at BK155 BK156 BK157 BK158 HB hHeld ⊢
   refine pA 1 20 HT_ ?_
   refine tA 0 19 HT_ HW_ hHeld ?_
   refine tA 2 21 HT_ HW_ hHeld ?_
   refine pA 3 22 HT_ ?_
   refine pA 4 23 HT_ ?_
   refine pA 5 24 HT_ ?_
   refine pA 7 26 HT_ ?_
   refine pA 9 28 HT_ ?_
   refine tA 6 25 HT_ HW_ hHeld ?_
   refine tA 8 27 HT_ HW_ hHeld ?_
   refine tA 10 29 HT_ HW_ hHeld ?_
   refine pA 11 30 HT_ ?_
   refine oA 12 (some 31) HT_ fun K hK => ?_
   refine rA Tryz.func45 (spec_l1In.calls a1_1 1 (wrap64 (a0_1 - a0_2)) false _ A5.out) ?_
   rintro _ ⟨nd, rfl⟩
   refine hK.out _ _ ⟨cb BK158 0, cb BK158 1, cb BK158 2, cb BK158 3, cb BK158 4, cb BK155 0, cb BK155 1, cb BK155 2, cb BK155 3, cb BK155 4, cb BK156 0, cb BK156 1⟩ (fun hHeld => ?_)
   clear hK K
   refine nA ?_ (some 31)
   refine pA 13 32 HT_ ?_
   refine pA 14 33 HT_ ?_
   refine pU 15 34 HT_ ?_
   refine pU 16 35 HT_ ?_
   refine pU 17 36 HT_ ?_
   refine pU 18 37 HT_ ?_
   refine pU 19 38 HT_ ?_
   refine pA 20 39 HT_ ?_
   refine oA 21 none HT_ fun K hK => ?_
   have hs44 := ci BK157.out 0 0 rfl
   have hfs44 := blk_frozen BK157.out 0
   have hns44_0 := NB155_157.out
   have hns44_1 := NB156_157.out
   have hns44_3 := NB158_157.out
   have hms44_0 := NB157_155.out
   have hms44_1 := NB157_156.out
   have hms44_3 := NB157_158.out
   have hs45 := ci BK157.out 1 0 rfl
   have hfs45 := blk_frozen BK157.out 1
   have hs46 := ci BK157.out 2 0 rfl
   have hfs46 := blk_frozen BK157.out 2
   have hs47 := ci BK157.out 3 0 rfl
   have hfs47 := blk_frozen BK157.out 3
   have hs48 := ci BK157.out 4 0 rfl
   have hfs48 := blk_frozen BK157.out 4
   refine skip_ (w1 := ?_) (by rfl) rfl ?_ ?_
   rotate_left
   ·go_simp
    rfl
   refine hK.out _ _ (aF hHeld) (fun hHeld => ?_)
   clear hK K
   refine pA 22 5 HT_ ?_
   refine done_ (done_of HT_.out (by kernel_rfl)) ?_
   try go_wp2
   refine bodyPost_ret (results_ct rfl _ _ gb157 25 #[.int .i64 1, .int .i64 a0_1, .int .i64 (wrap64 (a0_2 + a1_1)), .int .i64 a0_3, .int .i64 a0_4] (0, 0) _ rfl (by exact pW BK157) Tryz.underlying25 rfl (by kernel_rfl)) rfl ?_
   exact ⟨eB, (bW HB)⟩
 ·simp only [Option.some.injEq, Prod.mk.injEq] at H
  obtain ⟨rfl, rfl, rfl, rfl, rfl, rfl⟩ := H
  (try clear q1)
  go_enter Tryz.func62, Tryz.ntmps62
  go_wp2
  refine wp_abs (fun W' => (W'.heap[w.heap.size]? = some (.cells #[.int .i64 a0_0, .int .i64 a0_1, .int .i64 a0_2, .int .i64 a0_3, .int .i64 a0_4] 25 (0, 0))) ∧ (W'.heap[w.heap.size + 1]? = some (.cells #[.int .i64 a1_0, .int .i64 a1_1] 70 (0, 0))) ∧ (W'.heap[w.heap.size + 1 + 1]? = some (.cells #[.int .i64 0, .int .i64 0, .int .i64 0, .int .i64 0, .int .i64 0] 25 (0, 0))) ∧ (W'.heap[w.heap.size + 1 + 1 + 1]? = some (.cells #[.int .i64 1, .int .i64 a0_1, .int .i64 (wrap64 (a0_2 + a1_1)), .int .i64 a0_3, .int .i64 a0_4] 25 (0, 0))) ∧ (Below w.heap.size w W')) (boxes4 w _ _ _ _) (fun w63 hW => ?_)
  obtain ⟨m0_, m1_, m2_, m3_, m4_⟩ := hW
  generalize e3_ : w.heap.size + 1 + 1 + 1 = gb158 at m3_ ⊢
  generalize e2_ : w.heap.size + 1 + 1 = gb157 at m2_ ⊢
  generalize e1_ : w.heap.size + 1 = gb156 at m1_ ⊢
  generalize e0_ : w.heap.size = gb155 at m0_ ⊢
  have BK155 := Aside0.mk m0_
  have BK156 := Aside0.mk m1_
  have BK157 := Aside0.mk m2_
  have BK158 := Aside0.mk m3_
  have HB := Aside0.mk m4_
  have GE155 := Aside0.mk (show w.heap.size ≤ gb155 by omega)
  have NB155_156 := Aside0.mk (show gb155 ≠ gb156 by omega)
  have NB155_157 := Aside0.mk (show gb155 ≠ gb157 by omega)
  have NB155_158 := Aside0.mk (show gb155 ≠ gb158 by omega)
  have GE156 := Aside0.mk (show w.heap.size ≤ gb156 by omega)
  have NB156_155 := Aside0.mk (show gb156 ≠ gb155 by omega)
  have NB156_157 := Aside0.mk (show gb156 ≠ gb157 by omega)
  have NB156_158 := Aside0.mk (show gb156 ≠ gb158 by omega)
  have GE157 := Aside0.mk (show w.heap.size ≤ gb157 by omega)
  have NB157_155 := Aside0.mk (show gb157 ≠ gb155 by omega)
  have NB157_156 := Aside0.mk (show gb157 ≠ gb156 by omega)
  have NB157_158 := Aside0.mk (show gb157 ≠ gb158 by omega)
  have GE158 := Aside0.mk (show w.heap.size ≤ gb158 by omega)
  have NB158_155 := Aside0.mk (show gb158 ≠ gb155 by omega)
  have NB158_156 := Aside0.mk (show gb158 ≠ gb156 by omega)
  have NB158_157 := Aside0.mk (show gb158 ≠ gb157 by omega)
  clear e0_ e1_ e2_ e3_ m0_ m1_ m2_ m3_ m4_
  replace BK155 := dK BK155
  replace BK156 := dK BK156
  replace BK157 := dK BK157
  replace BK158 := dK BK158
  replace HB := Aside0.mk (below_drew1 HB.out)
  refine sA (n := 23) (S := fun w' => w'.cell? ⟨gb158, 0, none⟩ = some (.int .i64 1) ∧ w'.cell? ⟨gb158, 1, none⟩ = some (.int .i64 a0_1) ∧ w'.cell? ⟨gb158, 2, none⟩ = some (.int .i64 (wrap64 (a0_2 + a1_1))) ∧ w'.cell? ⟨gb158, 3, none⟩ = some (.int .i64 a0_3) ∧ w'.cell? ⟨gb158, 4, none⟩ = some (.int .i64 a0_4) ∧ w'.cell? ⟨gb155, 0, none⟩ = some (.int .i64 a0_0) ∧ w'.cell? ⟨gb155, 1, none⟩ = some (.int .i64 a0_1) ∧ w'.cell? ⟨gb155, 2, none⟩ = some (.int .i64 a0_2) ∧ w'.cell? ⟨gb155, 3, none⟩ = some (.int .i64 a0_3) ∧ w'.cell? ⟨gb155, 4, none⟩ = some (.int .i64 a0_4)) (ds := []) spec_l21Make.tab6 spec_l21Make.bits6 #[false, false, false, false, false, false, false, false, false, false, false, false, false, false, false, false, false, false, false, false, false, false, false] ⟨cb BK158 0, cb BK158 1, cb BK158 2, cb BK158 3, cb BK158 4, cb BK155 0, cb BK155 1, cb BK155 2, cb BK155 3, cb BK155 4⟩ fun hHeld HT_ HW_ => ?_
  generalize w63.drew = w64 at BK155 BK156 BK157 BK158 HB hHeld ⊢
  refine pA 1 20 HT_ ?_
  refine tA 0 19 HT_ HW_ hHeld ?_
  refine tA 2 21 HT_ HW_ hHeld ?_
  refine pA 3 22 HT_ ?_
  refine pA 4 23 HT_ ?_
  refine pU 5 24 HT_ ?_
  refine pU 6 25 HT_ ?_
  refine pU 7 26 HT_ ?_
  refine pU 8 27 HT_ ?_
  refine pU 9 28 HT_ ?_
  refine pU 10 29 HT_ ?_
  refine pU 11 30 HT_ ?_
  refine pU 12 31 HT_ ?_
  refine pA 13 32 HT_ ?_
  refine pA 14 33 HT_ ?_
  refine pU 15 34 HT_ ?_
  refine pU 16 35 HT_ ?_
  refine pU 17 36 HT_ ?_
  refine pU 18 37 HT_ ?_
  refine pU 19 38 HT_ ?_
  refine pA 20 39 HT_ ?_
  refine oA 21 none HT_ fun K hK => ?_
  have hs65 := ci BK157.out 0 0 rfl
  have hfs65 := blk_frozen BK157.out 0
  have hns65_0 := NB155_157.out
  have hns65_1 := NB156_157.out
  have hns65_3 := NB158_157.out
  have hms65_0 := NB157_155.out
  have hms65_1 := NB157_156.out
  have hms65_3 := NB157_158.out
  have hs66 := ci BK157.out 1 0 rfl
  have hfs66 := blk_frozen BK157.out 1
  have hs67 := ci BK157.out 2 0 rfl
  have hfs67 := blk_frozen BK157.out 2
  have hs68 := ci BK157.out 3 0 rfl
  have hfs68 := blk_frozen BK157.out 3
  have hs69 := ci BK157.out 4 0 rfl
  have hfs69 := blk_frozen BK157.out 4
  refine skip_ (w1 := ?_) (by rfl) rfl ?_ ?_
  rotate_left
  ·go_simp
   rfl
  refine hK.out _ _ (aF hHeld) (fun hHeld => ?_)
  clear hK K
  refine pA 22 5 HT_ ?_
  refine done_ (done_of HT_.out (by kernel_rfl)) ?_
  try go_wp2
  refine bodyPost_ret (results_ct rfl _ _ gb157 25 #[.int .i64 1, .int .i64 a0_1, .int .i64 (wrap64 (a0_2 + a1_1)), .int .i64 a0_3, .int .i64 a0_4] (0, 0) _ rfl (by exact pW BK157) Tryz.underlying25 rfl (by kernel_rfl)) rfl ?_
  exact ⟨eB, (bW HB)⟩

end Go.Proofs.YtmeaacbnjpgepaaGreatDoor.QFnTripLists
