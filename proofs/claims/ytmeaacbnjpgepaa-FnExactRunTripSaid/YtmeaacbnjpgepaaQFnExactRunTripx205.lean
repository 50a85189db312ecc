/- Contracts of Go functions that FnExactRunTrip reaches: the call computes what the plain function says. No condition. -/
import Derived.Test.YtmeaacbnjpgepaaQFnExactRunTripx201
namespace Go.Proofs.Ytmeaacbnjpgepaa.QFnExactRunTrip
open Go.RowKit Go.Proofs.YtmeaacbnjpgepaaW.PrintWords Go.Proofs.YtmeaacbnjpgepaaW.PrintLast Go.Proofs.YtmeaacbnjpgepaaW.PrintMore
attribute [local go_sem] max2_int min2_int max_two min_two max_three min_three max_four min_four   -- for this text's walks alone
set_option linter.unusedVariables false
set_option linter.unusedSimpArgs false

set_option maxHeartbeats 8000000 in
set_option maxRecDepth 100000 in
theorem spec_l21Make.calls_4 (k : Nat) (a0_0 : Int) (a0_1 : Int) (a0_2 : Int) (a0_3 : Int) (a0_4 : Int) (a1_0 : Int) (a1_1 : Int) (r1 : Int) (r2 : Int) (r3 : Int) (r4 : Int) (r5 : Int) (r6 : Bool) (w : World) (h : spec_l21Make.f k a0_0 a0_1 a0_2 a0_3 a0_4 a1_0 a1_1 = some (r1, r2, r3, r4, r5, r6)) (q1 : ¬ (a1_0 = 1)) (q2 : ¬ (a1_0 = 2)) (q3 : ¬ (a1_0 = 3)) (q4 : a1_0 = 4) :
    Calls Try.prog 52 #[.agg #[.int .i64 a0_0, .int .i64 a0_1, .int .i64 a0_2, .int .i64 a0_3, .int .i64 a0_4], .agg #[.int .i64 a1_0, .int .i64 a1_1]] w fun e w' => e = .returned (.tuple #[.agg #[.int .i64 r1, .int .i64 r2, .int .i64 r3, .int .i64 r4, .int .i64 r5], .bool r6]) ∧ Below w.heap.size w w' := by
  have hu25 := Try.underlying25
  have hu49 := Try.underlying49
  have HB := Aside0.mk (Below.refl w.heap.size w)
  have H : (if a1_0 = 1 then (if a0_0 ≤ 1 then ((spec_l1In.f a1_1 1 (wrap64 (a0_1 - a0_2))).bind fun t119 => (if t119 = true then (some (1, a0_1, wrap64 (a0_2 + a1_1), a0_3, a0_4, decide (a0_4 < a0_3))) else (some (1, a0_1, wrap64 (a0_2 + a1_1), a0_3, a0_4, false)))) else (some (1, a0_1, wrap64 (a0_2 + a1_1), a0_3, a0_4, false))) else (if a1_0 = 2 then (if (wrap64 (a0_2 - a1_1)) = 0 then ((spec_l21In.f a0_0).bind fun t120 => (if t120 = true then ((spec_l1In.f a1_1 1 a0_2).bind fun t121 => (some (4, a0_1, wrap64 (a0_2 - a1_1), a0_3, a0_4, t121))) else (some (4, a0_1, wrap64 (a0_2 - a1_1), a0_3, a0_4, false)))) else ((spec_l21In.f a0_0).bind fun t122 => (if t122 = true then ((spec_l1In.f a1_1 1 a0_2).bind fun t123 => (some (a0_0, a0_1, wrap64 (a0_2 - a1_1), a0_3, a0_4, t123))) else (some (a0_0, a0_1, wrap64 (a0_2 - a1_1), a0_3, a0_4, false))))) else (if a1_0 = 3 then (if a0_0 = 1 then (spec_l21Make.j0 k (decide ((wrap64 (a0_4 + a1_1)) > a0_3)) a0_0 a0_1 a0_2 a0_3 a0_4 a1_0 a1_1 a0_0 a0_1 a0_2 a0_3 (wrap64 (a0_4 + a1_1))) else (spec_l21Make.j0 k false a0_0 a0_1 a0_2 a0_3 a0_4 a1_0 a1_1 a0_0 a0_1 a0_2 a0_3 (wrap64 (a0_4 + a1_1)))) else (if a1_0 = 4 then (some (3, a0_1, a0_2, a0_3, a0_4, (a0_0 == 2))) else (if a1_0 = 5 then (some (5, a0_1, a0_2, a0_3, a0_4, (a0_0 == 0))) else (if a0_0 = 1 then ((spec_l1In.f a1_1 1 (wrap64 (999 - a0_3))).bind fun t126 => (some (a0_0, a0_1, a0_2, wrap64 (a0_3 + a1_1), a0_4, t126))) else (some (a0_0, a0_1, a0_2, wrap64 (a0_3 + a1_1), a0_4, false)))))))) = some (r1, r2, r3, r4, r5, r6) := h
  clear h
  have c3 : ¬ (a1_0 = 1) := q1
  rw [if_neg c3] at H
  have c3b0 : (a1_0 == 1) = false := beq_eq_false_iff_ne.mpr c3
  have c3b1 : (a1_0 != 1) = true := bne_iff_ne.mpr c3
  have c70 : ¬ (a1_0 = 2) := q2
  rw [if_neg c70] at H
  have c70b0 : (a1_0 == 2) = false := beq_eq_false_iff_ne.mpr c70
  have c70b1 : (a1_0 != 2) = true := bne_iff_ne.mpr c70
  have c162 : ¬ (a1_0 = 3) := q3
  rw [if_neg c162] at H
  have c162b0 : (a1_0 == 3) = false := beq_eq_false_iff_ne.mpr c162
  have c162b1 : (a1_0 != 3) = true := bne_iff_ne.mpr c162
  have c210 : a1_0 = 4 := q4
  rw [if_pos c210] at H
  have c210b0 : (a1_0 == 4) = true := beq_iff_eq.mpr c210
  have c210b1 : (a1_0 != 4) = false := bne_eq_false_iff_eq.mpr c210
  clear c210
  simp only [Option.some.injEq, Prod.mk.injEq] at H
  obtain ⟨rfl, rfl, rfl, rfl, rfl, rfl⟩ := H
  (try clear q1)
  (try clear q2)
  (try clear q3)
  (try clear q4)
  (try clear q5)
  (try clear q6)
  go_enter Try.func52, Try.ntmps52
  go_wp2
  refine wp_abs (fun W' => (W'.heap[w.heap.size]? = some (.cells #[.int .i64 a0_0, .int .i64 a0_1, .int .i64 a0_2, .int .i64 a0_3, .int .i64 a0_4] 25 (0, 0))) ∧ (W'.heap[w.heap.size + 1]? = some (.cells #[.int .i64 a1_0, .int .i64 a1_1] 49 (0, 0))) ∧ (W'.heap[w.heap.size + 1 + 1]? = some (.cells #[.int .i64 0, .int .i64 0, .int .i64 0, .int .i64 0, .int .i64 0] 25 (0, 0))) ∧ (W'.heap[w.heap.size + 1 + 1 + 1]? = some (.cells #[.int .i64 3, .int .i64 a0_1, .int .i64 a0_2, .int .i64 a0_3, .int .i64 a0_4] 25 (0, 0))) ∧ (Below w.heap.size w W')) (boxes4 w _ _ _ _) (fun w224 hW => ?_)
  obtain ⟨m0_, m1_, m2_, m3_, m4_⟩ := hW
  generalize e3_ : w.heap.size + 1 + 1 + 1 = gb118 at m3_ ⊢
  generalize e2_ : w.heap.size + 1 + 1 = gb117 at m2_ ⊢
  generalize e1_ : w.heap.size + 1 = gb116 at m1_ ⊢
  generalize e0_ : w.heap.size = gb115 at m0_ ⊢
  have BK115 := Aside0.mk m0_
  have BK116 := Aside0.mk m1_
  have BK117 := Aside0.mk m2_
  have BK118 := Aside0.mk m3_
  have HB := Aside0.mk m4_
  have GW115 := Aside0.mk (show w.heap.size ≤ gb115 by omega)
  have GE115 := Aside0.mk (show w.heap.size ≤ gb115 by omega)
  have NB115_116 := Aside0.mk (show gb115 ≠ gb116 by omega)
  have NB115_117 := Aside0.mk (show gb115 ≠ gb117 by omega)
  have NB115_118 := Aside0.mk (show gb115 ≠ gb118 by omega)
  have GW116 := Aside0.mk (show w.heap.size ≤ gb116 by omega)
  have GE116 := Aside0.mk (show w.heap.size ≤ gb116 by omega)
  have NB116_115 := Aside0.mk (show gb116 ≠ gb115 by omega)
  have NB116_117 := Aside0.mk (show gb116 ≠ gb117 by omega)
  have NB116_118 := Aside0.mk (show gb116 ≠ gb118 by omega)
  have GW117 := Aside0.mk (show w.heap.size ≤ gb117 by omega)
  have GE117 := Aside0.mk (show w.heap.size ≤ gb117 by omega)
  have NB117_115 := Aside0.mk (show gb117 ≠ gb115 by omega)
  have NB117_116 := Aside0.mk (show gb117 ≠ gb116 by omega)
  have NB117_118 := Aside0.mk (show gb117 ≠ gb118 by omega)
  have GW118 := Aside0.mk (show w.heap.size ≤ gb118 by omega)
  have GE118 := Aside0.mk (show w.heap.size ≤ gb118 by omega)
  have NB118_115 := Aside0.mk (show gb118 ≠ gb115 by omega)
  have NB118_116 := Aside0.mk (show gb118 ≠ gb116 by omega)
  have NB118_117 := Aside0.mk (show gb118 ≠ gb117 by omega)
  clear e0_ e1_ e2_ e3_ m0_ m1_ m2_ m3_ m4_
  have n0_ := Aside0.mk (blk_drew BK115.out)
  have n1_ := Aside0.mk (blk_drew BK116.out)
  have n2_ := Aside0.mk (blk_drew BK117.out)
  have n3_ := Aside0.mk (blk_drew BK118.out)
  have n4_ := Aside0.mk (below_drew1 HB.out)
  clear BK115
  clear BK116
  clear BK117
  clear BK118
  clear HB
  have BK115 := n0_
  have BK116 := n1_
  have BK117 := n2_
  have BK118 := n3_
  have HB := n4_
  clear n0_ n1_ n2_ n3_ n4_
  refine start_ (n := 6) (S := fun w' => w'.cell? ⟨gb118, 0, none⟩ = some (.int .i64 3) ∧ w'.cell? ⟨gb118, 1, none⟩ = some (.int .i64 a0_1) ∧ w'.cell? ⟨gb118, 2, none⟩ = some (.int .i64 a0_2) ∧ w'.cell? ⟨gb118, 3, none⟩ = some (.int .i64 a0_3) ∧ w'.cell? ⟨gb118, 4, none⟩ = some (.int .i64 a0_4) ∧ w'.cell? ⟨gb115, 0, none⟩ = some (.int .i64 a0_0) ∧ w'.cell? ⟨gb115, 1, none⟩ = some (.int .i64 a0_1) ∧ w'.cell? ⟨gb115, 2, none⟩ = some (.int .i64 a0_2) ∧ w'.cell? ⟨gb115, 3, none⟩ = some (.int .i64 a0_3) ∧ w'.cell? ⟨gb115, 4, none⟩ = some (.int .i64 a0_4)) (ds := []) #[false, false, false, false, false, false] (by kernel_rfl) rfl rfl ⟨(blk_cell BK118.out 0).trans rfl, (blk_cell BK118.out 1).trans rfl, (blk_cell BK118.out 2).trans rfl, (blk_cell BK118.out 3).trans rfl, (blk_cell BK118.out 4).trans rfl, (blk_cell BK115.out 0).trans rfl, (blk_cell BK115.out 1).trans rfl, (blk_cell BK115.out 2).trans rfl, (blk_cell BK115.out 3).trans rfl, (blk_cell BK115.out 4).trans rfl⟩ (fun hHeld => ?_)
  generalize w224.drew = w225 at BK115 BK116 BK117 BK118 HB hHeld ⊢
  refine pure_ (i := 1) (N := some 93) (v := ?_) (a' := ?_) #[false, true, false, false, false, false] rfl rfl (by kernel_rfl) (fun _ _ _ h => h) (Or.inl ⟨by rfl, ?_⟩) ?_ ?_
  rotate_left
  · intro w'
    go_simp
    with_reducible rfl
  rotate_left
  · simp only [Act.put, List.setIfInBounds_toArray, List.set_cons_zero, List.set_cons_succ, i64_w, i32_w]
    rfl
  refine take_ (i := 0) (N := some 92) (v := ?_) (a' := ?_) #[true, true, false, false, false, false] rfl rfl (by kernel_rfl) (fun _ _ _ h => h) (Or.inl ⟨by rfl, ?_⟩) hHeld ?_ ?_
  rotate_left
  · rintro w' ⟨s0, s1, s2, s3, s4, s5, s6, s7, s8, s9⟩
    go_simp
    with_reducible rfl
  rotate_left
  · simp only [Act.put, List.setIfInBounds_toArray, List.set_cons_zero, List.set_cons_succ, i64_w, i32_w]
    rfl
  refine take_ (i := 2) (N := some 94) (v := ?_) (a' := ?_) #[true, true, true, false, false, false] rfl rfl (by kernel_rfl) (fun _ _ _ h => h) (Or.inl ⟨by rfl, ?_⟩) hHeld ?_ ?_
  rotate_left
  · rintro w' ⟨s0, s1, s2, s3, s4, s5, s6, s7, s8, s9⟩
    go_simp
    with_reducible rfl
  rotate_left
  · simp only [Act.put, List.setIfInBounds_toArray, List.set_cons_zero, List.set_cons_succ, i64_w, i32_w]
    rfl
  refine pure_ (i := 3) (N := some 95) (v := ?_) (a' := ?_) #[true, true, true, true, false, false] rfl rfl (by kernel_rfl) (fun _ _ _ h => h) (Or.inl ⟨by rfl, ?_⟩) ?_ ?_
  rotate_left
  · intro w'
    go_simp
    with_reducible rfl
  rotate_left
  · simp only [Act.put, List.setIfInBounds_toArray, List.set_cons_zero, List.set_cons_succ, i64_w, i32_w]
    rfl
  refine one_ (i := 4) (N := none) #[true, true, true, true, true, false] rfl rfl (by kernel_rfl) (by decide) (fun K hK => ?_)
  have hs226 : w225.cell? ⟨gb117, 0, none⟩ = some (.int .i64 0) := (blk_cell BK117.out 0).trans rfl
  have hfs226 := blk_frozen BK117.out 0
  have hns226_0 := NB115_117.out
  have hns226_1 := NB116_117.out
  have hns226_3 := NB118_117.out
  have hms226_0 := NB117_115.out
  have hms226_1 := NB117_116.out
  have hms226_3 := NB117_118.out
  have hs227 : w225.cell? ⟨gb117, 1, none⟩ = some (.int .i64 0) := (blk_cell BK117.out 1).trans rfl
  have hfs227 := blk_frozen BK117.out 1
  have hns227_0 := NB115_117.out
  have hns227_1 := NB116_117.out
  have hns227_3 := NB118_117.out
  have hms227_0 := NB117_115.out
  have hms227_1 := NB117_116.out
  have hms227_3 := NB117_118.out
  have hs228 : w225.cell? ⟨gb117, 2, none⟩ = some (.int .i64 0) := (blk_cell BK117.out 2).trans rfl
  have hfs228 := blk_frozen BK117.out 2
  have hns228_0 := NB115_117.out
  have hns228_1 := NB116_117.out
  have hns228_3 := NB118_117.out
  have hms228_0 := NB117_115.out
  have hms228_1 := NB117_116.out
  have hms228_3 := NB117_118.out
  have hs229 : w225.cell? ⟨gb117, 3, none⟩ = some (.int .i64 0) := (blk_cell BK117.out 3).trans rfl
  have hfs229 := blk_frozen BK117.out 3
  have hns229_0 := NB115_117.out
  have hns229_1 := NB116_117.out
  have hns229_3 := NB118_117.out
  have hms229_0 := NB117_115.out
  have hms229_1 := NB117_116.out
  have hms229_3 := NB117_118.out
  have hs230 : w225.cell? ⟨gb117, 4, none⟩ = some (.int .i64 0) := (blk_cell BK117.out 4).trans rfl
  have hfs230 := blk_frozen BK117.out 4
  have hns230_0 := NB115_117.out
  have hns230_1 := NB116_117.out
  have hns230_3 := NB118_117.out
  have hms230_0 := NB117_115.out
  have hms230_1 := NB117_116.out
  have hms230_3 := NB117_118.out
  refine skip_ (w1 := ?_) (by rfl) rfl ?_ ?_
  rotate_left
  · go_simp
    rfl
  refine hK.out _ _ ⟨((cell_far (p := ⟨gb117, _, none⟩) NB118_117.out _).trans (((cell_far (p := ⟨gb117, _, none⟩) NB118_117.out _).trans (((cell_far (p := ⟨gb117, _, none⟩) NB118_117.out _).trans (((cell_far (p := ⟨gb117, _, none⟩) NB118_117.out _).trans (((cell_far (p := ⟨gb117, _, none⟩) NB118_117.out _).trans (hHeld.1)))))))))), ((cell_far (p := ⟨gb117, _, none⟩) NB118_117.out _).trans (((cell_far (p := ⟨gb117, _, none⟩) NB118_117.out _).trans (((cell_far (p := ⟨gb117, _, none⟩) NB118_117.out _).trans (((cell_far (p := ⟨gb117, _, none⟩) NB118_117.out _).trans (((cell_far (p := ⟨gb117, _, none⟩) NB118_117.out _).trans (hHeld.2.1)))))))))), ((cell_far (p := ⟨gb117, _, none⟩) NB118_117.out _).trans (((cell_far (p := ⟨gb117, _, none⟩) NB118_117.out _).trans (((cell_far (p := ⟨gb117, _, none⟩) NB118_117.out _).trans (((cell_far (p := ⟨gb117, _, none⟩) NB118_117.out _).trans (((cell_far (p := ⟨gb117, _, none⟩) NB118_117.out _).trans (hHeld.2.2.1)))))))))), ((cell_far (p := ⟨gb117, _, none⟩) NB118_117.out _).trans (((cell_far (p := ⟨gb117, _, none⟩) NB118_117.out _).trans (((cell_far (p := ⟨gb117, _, none⟩) NB118_117.out _).trans (((cell_far (p := ⟨gb117, _, none⟩) NB118_117.out _).trans (((cell_far (p := ⟨gb117, _, none⟩) NB118_117.out _).trans (hHeld.2.2.2.1)))))))))), ((cell_far (p := ⟨gb117, _, none⟩) NB118_117.out _).trans (((cell_far (p := ⟨gb117, _, none⟩) NB118_117.out _).trans (((cell_far (p := ⟨gb117, _, none⟩) NB118_117.out _).trans (((cell_far (p := ⟨gb117, _, none⟩) NB118_117.out _).trans (((cell_far (p := ⟨gb117, _, none⟩) NB118_117.out _).trans (hHeld.2.2.2.2.1)))))))))), ((cell_far (p := ⟨gb117, _, none⟩) NB115_117.out _).trans (((cell_far (p := ⟨gb117, _, none⟩) NB115_117.out _).trans (((cell_far (p := ⟨gb117, _, none⟩) NB115_117.out _).trans (((cell_far (p := ⟨gb117, _, none⟩) NB115_117.out _).trans (((cell_far (p := ⟨gb117, _, none⟩) NB115_117.out _).trans (hHeld.2.2.2.2.2.1)))))))))), ((cell_far (p := ⟨gb117, _, none⟩) NB115_117.out _).trans (((cell_far (p := ⟨gb117, _, none⟩) NB115_117.out _).trans (((cell_far (p := ⟨gb117, _, none⟩) NB115_117.out _).trans (((cell_far (p := ⟨gb117, _, none⟩) NB115_117.out _).trans (((cell_far (p := ⟨gb117, _, none⟩) NB115_117.out _).trans (hHeld.2.2.2.2.2.2.1)))))))))), ((cell_far (p := ⟨gb117, _, none⟩) NB115_117.out _).trans (((cell_far (p := ⟨gb117, _, none⟩) NB115_117.out _).trans (((cell_far (p := ⟨gb117, _, none⟩) NB115_117.out _).trans (((cell_far (p := ⟨gb117, _, none⟩) NB115_117.out _).trans (((cell_far (p := ⟨gb117, _, none⟩) NB115_117.out _).trans (hHeld.2.2.2.2.2.2.2.1)))))))))), ((cell_far (p := ⟨gb117, _, none⟩) NB115_117.out _).trans (((cell_far (p := ⟨gb117, _, none⟩) NB115_117.out _).trans (((cell_far (p := ⟨gb117, _, none⟩) NB115_117.out _).trans (((cell_far (p := ⟨gb117, _, none⟩) NB115_117.out _).trans (((cell_far (p := ⟨gb117, _, none⟩) NB115_117.out _).trans (hHeld.2.2.2.2.2.2.2.2.1)))))))))), ((cell_far (p := ⟨gb117, _, none⟩) NB115_117.out _).trans (((cell_far (p := ⟨gb117, _, none⟩) NB115_117.out _).trans (((cell_far (p := ⟨gb117, _, none⟩) NB115_117.out _).trans (((cell_far (p := ⟨gb117, _, none⟩) NB115_117.out _).trans (((cell_far (p := ⟨gb117, _, none⟩) NB115_117.out _).trans (hHeld.2.2.2.2.2.2.2.2.2))))))))))⟩ (fun hHeld => ?_)
  clear hK K
  refine pure_ (i := 5) (N := some 5) (v := ?_) (a' := ?_) #[true, true, true, true, true, true] rfl rfl (by kernel_rfl) (fun _ _ _ h => h) (Or.inl ⟨by rfl, ?_⟩) ?_ ?_
  rotate_left
  · intro w'
    go_simp
    with_reducible rfl
  rotate_left
  · simp only [Act.put, List.setIfInBounds_toArray, List.set_cons_zero, List.set_cons_succ, i64_w, i32_w]
    rfl
  refine done_ (by kernel_rfl) ?_
  try go_wp2
  refine bodyPost_ret (results_ct rfl _ _ gb117 25 #[.int .i64 3, .int .i64 a0_1, .int .i64 a0_2, .int .i64 a0_3, .int .i64 a0_4] (0, 0) _ rfl (by (with_reducible repeat (first | refine blk_drewN ?_ _ | refine blk_drew ?_ | refine blk_alloc ?_ _)); refine blk_put (cs := #[.int .i64 3, .int .i64 a0_1, .int .i64 a0_2, .int .i64 a0_3, .int .i64 0]) ?_ 4 _ rfl; (with_reducible repeat (first | refine blk_drewN ?_ _ | refine blk_drew ?_ | refine blk_alloc ?_ _)); refine blk_put (cs := #[.int .i64 3, .int .i64 a0_1, .int .i64 a0_2, .int .i64 0, .int .i64 0]) ?_ 3 _ rfl; (with_reducible repeat (first | refine blk_drewN ?_ _ | refine blk_drew ?_ | refine blk_alloc ?_ _)); refine blk_put (cs := #[.int .i64 3, .int .i64 a0_1, .int .i64 0, .int .i64 0, .int .i64 0]) ?_ 2 _ rfl; (with_reducible repeat (first | refine blk_drewN ?_ _ | refine blk_drew ?_ | refine blk_alloc ?_ _)); refine blk_put (cs := #[.int .i64 3, .int .i64 0, .int .i64 0, .int .i64 0, .int .i64 0]) ?_ 1 _ rfl; (with_reducible repeat (first | refine blk_drewN ?_ _ | refine blk_drew ?_ | refine blk_alloc ?_ _)); refine blk_put (cs := #[.int .i64 0, .int .i64 0, .int .i64 0, .int .i64 0, .int .i64 0]) ?_ 0 _ rfl; (with_reducible repeat (first | refine blk_drewN ?_ _ | refine blk_drew ?_ | refine blk_alloc ?_ _)); exact BK117.out) Try.underlying25 rfl (by kernel_rfl)) rfl ?_
  exact ⟨by first | rfl | (simp [errW_none, errW_some] <;> rfl) | (simp [*, errW_none, errW_some] <;> rfl), by repeat (first | (with_reducible first | exact HB.out | apply below_alloc | apply pw_below_drewN | apply below_drew1 | refine below_set ?_ GE115.out | refine below_set ?_ GE116.out | refine below_set ?_ GE117.out | refine below_set ?_ GE118.out) | exact HB.out)⟩

set_option maxHeartbeats 8000000 in
set_option maxRecDepth 100000 in
theorem spec_l21Make.calls_5 (k : Nat) (a0_0 : Int) (a0_1 : Int) (a0_2 : Int) (a0_3 : Int) (a0_4 : Int) (a1_0 : Int) (a1_1 : Int) (r1 : Int) (r2 : Int) (r3 : Int) (r4 : Int) (r5 : Int) (r6 : Bool) (w : World) (h : spec_l21Make.f k a0_0 a0_1 a0_2 a0_3 a0_4 a1_0 a1_1 = some (r1, r2, r3, r4, r5, r6)) (q1 : ¬ (a1_0 = 1)) (q2 : ¬ (a1_0 = 2)) (q3 : ¬ (a1_0 = 3)) (q4 : ¬ (a1_0 = 4)) (q5 : a1_0 = 5) :
    Calls Try.prog 52 #[.agg #[.int .i64 a0_0, .int .i64 a0_1, .int .i64 a0_2, .int .i64 a0_3, .int .i64 a0_4], .agg #[.int .i64 a1_0, .int .i64 a1_1]] w fun e w' => e = .returned (.tuple #[.agg #[.int .i64 r1, .int .i64 r2, .int .i64 r3, .int .i64 r4, .int .i64 r5], .bool r6]) ∧ Below w.heap.size w w' := by
  have hu25 := Try.underlying25
  have hu49 := Try.underlying49
  have HB := Aside0.mk (Below.refl w.heap.size w)
  have H : (if a1_0 = 1 then (if a0_0 ≤ 1 then ((spec_l1In.f a1_1 1 (wrap64 (a0_1 - a0_2))).bind fun t119 => (if t119 = true then (some (1, a0_1, wrap64 (a0_2 + a1_1), a0_3, a0_4, decide (a0_4 < a0_3))) else (some (1, a0_1, wrap64 (a0_2 + a1_1), a0_3, a0_4, false)))) else (some (1, a0_1, wrap64 (a0_2 + a1_1), a0_3, a0_4, false))) else (if a1_0 = 2 then (if (wrap64 (a0_2 - a1_1)) = 0 then ((spec_l21In.f a0_0).bind fun t120 => (if t120 = true then ((spec_l1In.f a1_1 1 a0_2).bind fun t121 => (some (4, a0_1, wrap64 (a0_2 - a1_1), a0_3, a0_4, t121))) else (some (4, a0_1, wrap64 (a0_2 - a1_1), a0_3, a0_4, false)))) else ((spec_l21In.f a0_0).bind fun t122 => (if t122 = true then ((spec_l1In.f a1_1 1 a0_2).bind fun t123 => (some (a0_0, a0_1, wrap64 (a0_2 - a1_1), a0_3, a0_4, t123))) else (some (a0_0, a0_1, wrap64 (a0_2 - a1_1), a0_3, a0_4, false))))) else (if a1_0 = 3 then (if a0_0 = 1 then (spec_l21Make.j0 k (decide ((wrap64 (a0_4 + a1_1)) > a0_3)) a0_0 a0_1 a0_2 a0_3 a0_4 a1_0 a1_1 a0_0 a0_1 a0_2 a0_3 (wrap64 (a0_4 + a1_1))) else (spec_l21Make.j0 k false a0_0 a0_1 a0_2 a0_3 a0_4 a1_0 a1_1 a0_0 a0_1 a0_2 a0_3 (wrap64 (a0_4 + a1_1)))) else (if a1_0 = 4 then (some (3, a0_1, a0_2, a0_3, a0_4, (a0_0 == 2))) else (if a1_0 = 5 then (some (5, a0_1, a0_2, a0_3, a0_4, (a0_0 == 0))) else (if a0_0 = 1 then ((spec_l1In.f a1_1 1 (wrap64 (999 - a0_3))).bind fun t126 => (some (a0_0, a0_1, a0_2, wrap64 (a0_3 + a1_1), a0_4, t126))) else (some (a0_0, a0_1, a0_2, wrap64 (a0_3 + a1_1), a0_4, false)))))))) = some (r1, r2, r3, r4, r5, r6) := h
  clear h
  have c3 : ¬ (a1_0 = 1) := q1
  rw [if_neg c3] at H
  have c3b0 : (a1_0 == 1) = false := beq_eq_false_iff_ne.mpr c3
  have c3b1 : (a1_0 != 1) = true := bne_iff_ne.mpr c3
  have c70 : ¬ (a1_0 = 2) := q2
  rw [if_neg c70] at H
  have c70b0 : (a1_0 == 2) = false := beq_eq_false_iff_ne.mpr c70
  have c70b1 : (a1_0 != 2) = true := bne_iff_ne.mpr c70
  have c162 : ¬ (a1_0 = 3) := q3
  rw [if_neg c162] at H
  have c162b0 : (a1_0 == 3) = false := beq_eq_false_iff_ne.mpr c162
  have c162b1 : (a1_0 != 3) = true := bne_iff_ne.mpr c162
  have c210 : ¬ (a1_0 = 4) := q4
  rw [if_neg c210] at H
  have c210b0 : (a1_0 == 4) = false := beq_eq_false_iff_ne.mpr c210
  have c210b1 : (a1_0 != 4) = true := bne_iff_ne.mpr c210
  have c231 : a1_0 = 5 := q5
  rw [if_pos c231] at H
  have c231b0 : (a1_0 == 5) = true := beq_iff_eq.mpr c231
  have c231b1 : (a1_0 != 5) = false := bne_eq_false_iff_eq.mpr c231
  clear c231
  simp only [Option.some.injEq, Prod.mk.injEq] at H
  obtain ⟨rfl, rfl, rfl, rfl, rfl, rfl⟩ := H
  (try clear q1)
  (try clear q2)
  (try clear q3)
  (try clear q4)
  (try clear q5)
  (try clear q6)
  go_enter Try.func52, Try.ntmps52
  go_wp2
  refine wp_abs (fun W' => (W'.heap[w.heap.size]? = some (.cells #[.int .i64 a0_0, .int .i64 a0_1, .int .i64 a0_2, .int .i64 a0_3, .int .i64 a0_4] 25 (0, 0))) ∧ (W'.heap[w.heap.size + 1]? = some (.cells #[.int .i64 a1_0, .int .i64 a1_1] 49 (0, 0))) ∧ (W'.heap[w.heap.size + 1 + 1]? = some (.cells #[.int .i64 0, .int .i64 0, .int .i64 0, .int .i64 0, .int .i64 0] 25 (0, 0))) ∧ (W'.heap[w.heap.size + 1 + 1 + 1]? = some (.cells #[.int .i64 5, .int .i64 a0_1, .int .i64 a0_2, .int .i64 a0_3, .int .i64 a0_4] 25 (0, 0))) ∧ (Below w.heap.size w W')) (boxes4 w _ _ _ _) (fun w245 hW => ?_)
  obtain ⟨m0_, m1_, m2_, m3_, m4_⟩ := hW
  generalize e3_ : w.heap.size + 1 + 1 + 1 = gb118 at m3_ ⊢
  generalize e2_ : w.heap.size + 1 + 1 = gb117 at m2_ ⊢
  generalize e1_ : w.heap.size + 1 = gb116 at m1_ ⊢
  generalize e0_ : w.heap.size = gb115 at m0_ ⊢
  have BK115 := Aside0.mk m0_
  have BK116 := Aside0.mk m1_
  have BK117 := Aside0.mk m2_
  have BK118 := Aside0.mk m3_
  have HB := Aside0.mk m4_
  have GW115 := Aside0.mk (show w.heap.size ≤ gb115 by omega)
  have GE115 := Aside0.mk (show w.heap.size ≤ gb115 by omega)
  have NB115_116 := Aside0.mk (show gb115 ≠ gb116 by omega)
  have NB115_117 := Aside0.mk (show gb115 ≠ gb117 by omega)
  have NB115_118 := Aside0.mk (show gb115 ≠ gb118 by omega)
  have GW116 := Aside0.mk (show w.heap.size ≤ gb116 by omega)
  have GE116 := Aside0.mk (show w.heap.size ≤ gb116 by omega)
  have NB116_115 := Aside0.mk (show gb116 ≠ gb115 by omega)
  have NB116_117 := Aside0.mk (show gb116 ≠ gb117 by omega)
  have NB116_118 := Aside0.mk (show gb116 ≠ gb118 by omega)
  have GW117 := Aside0.mk (show w.heap.size ≤ gb117 by omega)
  have GE117 := Aside0.mk (show w.heap.size ≤ gb117 by omega)
  have NB117_115 := Aside0.mk (show gb117 ≠ gb115 by omega)
  have NB117_116 := Aside0.mk (show gb117 ≠ gb116 by omega)
  have NB117_118 := Aside0.mk (show gb117 ≠ gb118 by omega)
  have GW118 := Aside0.mk (show w.heap.size ≤ gb118 by omega)
  have GE118 := Aside0.mk (show w.heap.size ≤ gb118 by omega)
  have NB118_115 := Aside0.mk (show gb118 ≠ gb115 by omega)
  have NB118_116 := Aside0.mk (show gb118 ≠ gb116 by omega)
  have NB118_117 := Aside0.mk (show gb118 ≠ gb117 by omega)
  clear e0_ e1_ e2_ e3_ m0_ m1_ m2_ m3_ m4_
  have n0_ := Aside0.mk (blk_drew BK115.out)
  have n1_ := Aside0.mk (blk_drew BK116.out)
  have n2_ := Aside0.mk (blk_drew BK117.out)
  have n3_ := Aside0.mk (blk_drew BK118.out)
  have n4_ := Aside0.mk (below_drew1 HB.out)
  clear BK115
  clear BK116
  clear BK117
  clear BK118
  clear HB
  have BK115 := n0_
  have BK116 := n1_
  have BK117 := n2_
  have BK118 := n3_
  have HB := n4_
  clear n0_ n1_ n2_ n3_ n4_
  refine start_ (n := 6) (S := fun w' => w'.cell? ⟨gb118, 0, none⟩ = some (.int .i64 5) ∧ w'.cell? ⟨gb118, 1, none⟩ = some (.int .i64 a0_1) ∧ w'.cell? ⟨gb118, 2, none⟩ = some (.int .i64 a0_2) ∧ w'.cell? ⟨gb118, 3, none⟩ = some (.int .i64 a0_3) ∧ w'.cell? ⟨gb118, 4, none⟩ = some (.int .i64 a0_4) ∧ w'.cell? ⟨gb115, 0, none⟩ = some (.int .i64 a0_0) ∧ w'.cell? ⟨gb115, 1, none⟩ = some (.int .i64 a0_1) ∧ w'.cell? ⟨gb115, 2, none⟩ = some (.int .i64 a0_2) ∧ w'.cell? ⟨gb115, 3, none⟩ = some (.int .i64 a0_3) ∧ w'.cell? ⟨gb115, 4, none⟩ = some (.int .i64 a0_4)) (ds := []) #[false, false, false, false, false, false] (by kernel_rfl) rfl rfl ⟨(blk_cell BK118.out 0).trans rfl, (blk_cell BK118.out 1).trans rfl, (blk_cell BK118.out 2).trans rfl, (blk_cell BK118.out 3).trans rfl, (blk_cell BK118.out 4).trans rfl, (blk_cell BK115.out 0).trans rfl, (blk_cell BK115.out 1).trans rfl, (blk_cell BK115.out 2).trans rfl, (blk_cell BK115.out 3).trans rfl, (blk_cell BK115.out 4).trans rfl⟩ (fun hHeld => ?_)
  generalize w245.drew = w246 at BK115 BK116 BK117 BK118 HB hHeld ⊢
  refine pure_ (i := 1) (N := some 100) (v := ?_) (a' := ?_) #[false, true, false, false, false, false] rfl rfl (by kernel_rfl) (fun _ _ _ h => h) (Or.inl ⟨by rfl, ?_⟩) ?_ ?_
  rotate_left
  · intro w'
    go_simp
    with_reducible rfl
  rotate_left
  · simp only [Act.put, List.setIfInBounds_toArray, List.set_cons_zero, List.set_cons_succ, i64_w, i32_w]
    rfl
  refine take_ (i := 0) (N := some 99) (v := ?_) (a' := ?_) #[true, true, false, false, false, false] rfl rfl (by kernel_rfl) (fun _ _ _ h => h) (Or.inl ⟨by rfl, ?_⟩) hHeld ?_ ?_
  rotate_left
  · rintro w' ⟨s0, s1, s2, s3, s4, s5, s6, s7, s8, s9⟩
    go_simp
    with_reducible rfl
  rotate_left
  · simp only [Act.put, List.setIfInBounds_toArray, List.set_cons_zero, List.set_cons_succ, i64_w, i32_w]
    rfl
  refine take_ (i := 2) (N := some 101) (v := ?_) (a' := ?_) #[true, true, true, false, false, false] rfl rfl (by kernel_rfl) (fun _ _ _ h => h) (Or.inl ⟨by rfl, ?_⟩) hHeld ?_ ?_
  rotate_left
  · rintro w' ⟨s0, s1, s2, s3, s4, s5, s6, s7, s8, s9⟩
    go_simp
    with_reducible rfl
  rotate_left
  · simp only [Act.put, List.setIfInBounds_toArray, List.set_cons_zero, List.set_cons_succ, i64_w, i32_w]
    rfl
  refine pure_ (i := 3) (N := some 102) (v := ?_) (a' := ?_) #[true, true, true, true, false, false] rfl rfl (by kernel_rfl) (fun _ _ _ h => h) (Or.inl ⟨by rfl, ?_⟩) ?_ ?_
  rotate_left
  · intro w'
    go_simp
    with_reducible rfl
  rotate_left
  · simp only [Act.put, List.setIfInBounds_toArray, List.set_cons_zero, List.set_cons_succ, i64_w, i32_w]
    rfl
  refine one_ (i := 4) (N := none) #[true, true, true, true, true, false] rfl rfl (by kernel_rfl) (by decide) (fun K hK => ?_)
  have hs247 : w246.cell? ⟨gb117, 0, none⟩ = some (.int .i64 0) := (blk_cell BK117.out 0).trans rfl
  have hfs247 := blk_frozen BK117.out 0
  have hns247_0 := NB115_117.out
  have hns247_1 := NB116_117.out
  have hns247_3 := NB118_117.out
  have hms247_0 := NB117_115.out
  have hms247_1 := NB117_116.out
  have hms247_3 := NB117_118.out
  have hs248 : w246.cell? ⟨gb117, 1, none⟩ = some (.int .i64 0) := (blk_cell BK117.out 1).trans rfl
  have hfs248 := blk_frozen BK117.out 1
  have hns248_0 := NB115_117.out
  have hns248_1 := NB116_117.out
  have hns248_3 := NB118_117.out
  have hms248_0 := NB117_115.out
  have hms248_1 := NB117_116.out
  have hms248_3 := NB117_118.out
  have hs249 : w246.cell? ⟨gb117, 2, none⟩ = some (.int .i64 0) := (blk_cell BK117.out 2).trans rfl
  have hfs249 := blk_frozen BK117.out 2
  have hns249_0 := NB115_117.out
  have hns249_1 := NB116_117.out
  have hns249_3 := NB118_117.out
  have hms249_0 := NB117_115.out
  have hms249_1 := NB117_116.out
  have hms249_3 := NB117_118.out
  have hs250 : w246.cell? ⟨gb117, 3, none⟩ = some (.int .i64 0) := (blk_cell BK117.out 3).trans rfl
  have hfs250 := blk_frozen BK117.out 3
  have hns250_0 := NB115_117.out
  have hns250_1 := NB116_117.out
  have hns250_3 := NB118_117.out
  have hms250_0 := NB117_115.out
  have hms250_1 := NB117_116.out
  have hms250_3 := NB117_118.out
  have hs251 : w246.cell? ⟨gb117, 4, none⟩ = some (.int .i64 0) := (blk_cell BK117.out 4).trans rfl
  have hfs251 := blk_frozen BK117.out 4
  have hns251_0 := NB115_117.out
  have hns251_1 := NB116_117.out
  have hns251_3 := NB118_117.out
  have hms251_0 := NB117_115.out
  have hms251_1 := NB117_116.out
  have hms251_3 := NB117_118.out
  refine skip_ (w1 := ?_) (by rfl) rfl ?_ ?_
  rotate_left
  · go_simp
    rfl
  refine hK.out _ _ ⟨((cell_far (p := ⟨gb117, _, none⟩) NB118_117.out _).trans (((cell_far (p := ⟨gb117, _, none⟩) NB118_117.out _).trans (((cell_far (p := ⟨gb117, _, none⟩) NB118_117.out _).trans (((cell_far (p := ⟨gb117, _, none⟩) NB118_117.out _).trans (((cell_far (p := ⟨gb117, _, none⟩) NB118_117.out _).trans (hHeld.1)))))))))), ((cell_far (p := ⟨gb117, _, none⟩) NB118_117.out _).trans (((cell_far (p := ⟨gb117, _, none⟩) NB118_117.out _).trans (((cell_far (p := ⟨gb117, _, none⟩) NB118_117.out _).trans (((cell_far (p := ⟨gb117, _, none⟩) NB118_117.out _).trans (((cell_far (p := ⟨gb117, _, none⟩) NB118_117.out _).trans (hHeld.2.1)))))))))), ((cell_far (p := ⟨gb117, _, none⟩) NB118_117.out _).trans (((cell_far (p := ⟨gb117, _, none⟩) NB118_117.out _).trans (((cell_far (p := ⟨gb117, _, none⟩) NB118_117.out _).trans (((cell_far (p := ⟨gb117, _, none⟩) NB118_117.out _).trans (((cell_far (p := ⟨gb117, _, none⟩) NB118_117.out _).trans (hHeld.2.2.1)))))))))), ((cell_far (p := ⟨gb117, _, none⟩) NB118_117.out _).trans (((cell_far (p := ⟨gb117, _, none⟩) NB118_117.out _).trans (((cell_far (p := ⟨gb117, _, none⟩) NB118_117.out _).trans (((cell_far (p := ⟨gb117, _, none⟩) NB118_117.out _).trans (((cell_far (p := ⟨gb117, _, none⟩) NB118_117.out _).trans (hHeld.2.2.2.1)))))))))), ((cell_far (p := ⟨gb117, _, none⟩) NB118_117.out _).trans (((cell_far (p := ⟨gb117, _, none⟩) NB118_117.out _).trans (((cell_far (p := ⟨gb117, _, none⟩) NB118_117.out _).trans (((cell_far (p := ⟨gb117, _, none⟩) NB118_117.out _).trans (((cell_far (p := ⟨gb117, _, none⟩) NB118_117.out _).trans (hHeld.2.2.2.2.1)))))))))), ((cell_far (p := ⟨gb117, _, none⟩) NB115_117.out _).trans (((cell_far (p := ⟨gb117, _, none⟩) NB115_117.out _).trans (((cell_far (p := ⟨gb117, _, none⟩) NB115_117.out _).trans (((cell_far (p := ⟨gb117, _, none⟩) NB115_117.out _).trans (((cell_far (p := ⟨gb117, _, none⟩) NB115_117.out _).trans (hHeld.2.2.2.2.2.1)))))))))), ((cell_far (p := ⟨gb117, _, none⟩) NB115_117.out _).trans (((cell_far (p := ⟨gb117, _, none⟩) NB115_117.out _).trans (((cell_far (p := ⟨gb117, _, none⟩) NB115_117.out _).trans (((cell_far (p := ⟨gb117, _, none⟩) NB115_117.out _).trans (((cell_far (p := ⟨gb117, _, none⟩) NB115_117.out _).trans (hHeld.2.2.2.2.2.2.1)))))))))), ((cell_far (p := ⟨gb117, _, none⟩) NB115_117.out _).trans (((cell_far (p := ⟨gb117, _, none⟩) NB115_117.out _).trans (((cell_far (p := ⟨gb117, _, none⟩) NB115_117.out _).trans (((cell_far (p := ⟨gb117, _, none⟩) NB115_117.out _).trans (((cell_far (p := ⟨gb117, _, none⟩) NB115_117.out _).trans (hHeld.2.2.2.2.2.2.2.1)))))))))), ((cell_far (p := ⟨gb117, _, none⟩) NB115_117.out _).trans (((cell_far (p := ⟨gb117, _, none⟩) NB115_117.out _).trans (((cell_far (p := ⟨gb117, _, none⟩) NB115_117.out _).trans (((cell_far (p := ⟨gb117, _, none⟩) NB115_117.out _).trans (((cell_far (p := ⟨gb117, _, none⟩) NB115_117.out _).trans (hHeld.2.2.2.2.2.2.2.2.1)))))))))), ((cell_far (p := ⟨gb117, _, none⟩) NB115_117.out _).trans (((cell_far (p := ⟨gb117, _, none⟩) NB115_117.out _).trans (((cell_far (p := ⟨gb117, _, none⟩) NB115_117.out _).trans (((cell_far (p := ⟨gb117, _, none⟩) NB115_117.out _).trans (((cell_far (p := ⟨gb117, _, none⟩) NB115_117.out _).trans (hHeld.2.2.2.2.2.2.2.2.2))))))))))⟩ (fun hHeld => ?_)
  clear hK K
  refine pure_ (i := 5) (N := some 5) (v := ?_) (a' := ?_) #[true, true, true, true, true, true] rfl rfl (by kernel_rfl) (fun _ _ _ h => h) (Or.inl ⟨by rfl, ?_⟩) ?_ ?_
  rotate_left
  · intro w'
    go_simp
    with_reducible rfl
  rotate_left
  · simp only [Act.put, List.setIfInBounds_toArray, List.set_cons_zero, List.set_cons_succ, i64_w, i32_w]
    rfl
  refine done_ (by kernel_rfl) ?_
  try go_wp2
  refine bodyPost_ret (results_ct rfl _ _ gb117 25 #[.int .i64 5, .int .i64 a0_1, .int .i64 a0_2, .int .i64 a0_3, .int .i64 a0_4] (0, 0) _ rfl (by (with_reducible repeat (first | refine blk_drewN ?_ _ | refine blk_drew ?_ | refine blk_alloc ?_ _)); refine blk_put (cs := #[.int .i64 5, .int .i64 a0_1, .int .i64 a0_2, .int .i64 a0_3, .int .i64 0]) ?_ 4 _ rfl; (with_reducible repeat (first | refine blk_drewN ?_ _ | refine blk_drew ?_ | refine blk_alloc ?_ _)); refine blk_put (cs := #[.int .i64 5, .int .i64 a0_1, .int .i64 a0_2, .int .i64 0, .int .i64 0]) ?_ 3 _ rfl; (with_reducible repeat (first | refine blk_drewN ?_ _ | refine blk_drew ?_ | refine blk_alloc ?_ _)); refine blk_put (cs := #[.int .i64 5, .int .i64 a0_1, .int .i64 0, .int .i64 0, .int .i64 0]) ?_ 2 _ rfl; (with_reducible repeat (first | refine blk_drewN ?_ _ | refine blk_drew ?_ | refine blk_alloc ?_ _)); refine blk_put (cs := #[.int .i64 5, .int .i64 0, .int .i64 0, .int .i64 0, .int .i64 0]) ?_ 1 _ rfl; (with_reducible repeat (first | refine blk_drewN ?_ _ | refine blk_drew ?_ | refine blk_alloc ?_ _)); refine blk_put (cs := #[.int .i64 0, .int .i64 0, .int .i64 0, .int .i64 0, .int .i64 0]) ?_ 0 _ rfl; (with_reducible repeat (first | refine blk_drewN ?_ _ | refine blk_drew ?_ | refine blk_alloc ?_ _)); exact BK117.out) Try.underlying25 rfl (by kernel_rfl)) rfl ?_
  exact ⟨by first | rfl | (simp [errW_none, errW_some] <;> rfl) | (simp [*, errW_none, errW_some] <;> rfl), by repeat (first | (with_reducible first | exact HB.out | apply below_alloc | apply pw_below_drewN | apply below_drew1 | refine below_set ?_ GE115.out | refine below_set ?_ GE116.out | refine below_set ?_ GE117.out | refine below_set ?_ GE118.out) | exact HB.out)⟩

end Go.Proofs.Ytmeaacbnjpgepaa.QFnExactRunTrip
