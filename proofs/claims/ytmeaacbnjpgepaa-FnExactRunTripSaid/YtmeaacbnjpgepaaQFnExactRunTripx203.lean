/- Contracts of Go functions that FnExactRunTrip reaches: the call computes what the plain function says. No condition. -/
import Derived.Test.YtmeaacbnjpgepaaQFnExactRunTripx201
namespace Go.Proofs.Ytmeaacbnjpgepaa.QFnExactRunTrip
open Go.RowKit Go.Proofs.YtmeaacbnjpgepaaW.PrintWords Go.Proofs.YtmeaacbnjpgepaaW.PrintLast Go.Proofs.YtmeaacbnjpgepaaW.PrintMore
attribute [local go_sem] max2_int min2_int max_two min_two max_three min_three max_four min_four   -- for this text's walks alone
set_option linter.unusedVariables false
set_option linter.unusedSimpArgs false

set_option maxHeartbeats 8000000 in
set_option maxRecDepth 100000 in
theorem spec_l21Make.calls_2 (k : Nat) (a0_0 : Int) (a0_1 : Int) (a0_2 : Int) (a0_3 : Int) (a0_4 : Int) (a1_0 : Int) (a1_1 : Int) (r1 : Int) (r2 : Int) (r3 : Int) (r4 : Int) (r5 : Int) (r6 : Bool) (w : World) (h : spec_l21Make.f k a0_0 a0_1 a0_2 a0_3 a0_4 a1_0 a1_1 = some (r1, r2, r3, r4, r5, r6)) (q1 : ¬ (a1_0 = 1)) (q2 : a1_0 = 2) :
    Calls Try.prog 52 #[.agg #[.int .i64 a0_0, .int .i64 a0_1, .int .i64 a0_2, .int .i64 a0_3, .int .i64 a0_4], .agg #[.int .i64 a1_0, .int .i64 a1_1]] w fun e w' => e = .returned (.tuple #[.agg #[.int .i64 r1, .int .i64 r2, .int .i64 r3, .int .i64 r4, .int .i64 r5], .bool r6]) ∧ Below w.heap.size w w' := by
  have hu25 := Try.underlying25
  have hu49 := Try.underlying49
  have HB := Aside0.mk (Below.refl w.heap.size w)
  have H : (if a1_0 = 1 then (if a0_0 ≤ 1 then ((spec_l1In.f a1_1 1 (wrap64 (a0_1 - a0_2))).bind fun t119 => (if t119 = true then (some (1, a0_1, wrap64 (a0_2 + a1_1), a0_3, a0_4, decide (a0_4 < a0_3))) else (some (1, a0_1, wrap64 (a0_2 + a1_1), a0_3, a0_4, false)))) else (some (1, a0_1, wrap64 (a0_2 + a1_1), a0_3, a0_4, false))) else (if a1_0 = 2 then (if (wrap64 (a0_2 - a1_1)) = 0 then ((spec_l21In.f a0_0).bind fun t120 => (if t120 = true then ((spec_l1In.f a1_1 1 a0_2).bind fun t121 => (some (4, a0_1, wrap64 (a0_2 - a1_1), a0_3, a0_4, t121))) else (some (4, a0_1, wrap64 (a0_2 - a1_1), a0_3, a0_4, false)))) else ((spec_l21In.f a0_0).bind fun t122 => (if t122 = true then ((spec_l1In.f a1_1 1 a0_2).bind fun t123 => (some (a0_0, a0_1, wrap64 (a0_2 - a1_1), a0_3, a0_4, t123))) else (some (a0_0, a0_1, wrap64 (a0_2 - a1_1), a0_3, a0_4, false))))) else (if a1_0 = 3 then (if a0_0 = 1 then (spec_l21Make.j0 k (decide ((wrap64 (a0_4 + a1_1)) > a0_3)) a0_0 a0_1 a0_2 a0_3 a0_4 a1_0 a1_1 a0_0 a0_1 a0_2 a0_3 (wrap64 (a0_4 + a1_1))) else (spec_l21Make.j0 k false a0_0 a0_1 a0_2 a0_3 a0_4 a1_0 a1_1 a0_0 a0_1 a0_2 a0_3 (wrap64 (a0_4 + a1_1)))) else (if a1_0 = 4 then (some (3, a0_1, a0_2, a0_3, a0_4, (a0_0 == 2))) else (if a1_0 = 5 then (some (5, a0_1, a0_2, a0_3, a0_4, (a0_0 == 0))) else (if a0_0 = 1 then ((spec_l1In.f a1_1 1 (wrap64 (999 - a0_3))).bind fun t126 => (some (a0_0, a0_1, a0_2, wrap64 (a0_3 + a1_1), a0_4, t126))) else (some (a0_0, a0_1, a0_2, wrap64 (a0_3 + a1_1), a0_4, false)))))))) = some (r1, r2, r3, r4, r5, r6) := h
  clear h
  have c3 : ¬ (a1_0 = 1) := q1
  rw [if_neg c3] at H
  have c3b0 : (a1_0 == 1) = false := beq_eq_false_iff_ne.mpr c3
  have c3b1 : (a1_0 != 1) = true := bne_iff_ne.mpr c3
  have c70 : a1_0 = 2 := q2
  rw [if_pos c70] at H
  have c70b0 : (a1_0 == 2) = true := beq_iff_eq.mpr c70
  have c70b1 : (a1_0 != 2) = false := bne_eq_false_iff_eq.mpr c70
  clear c70
  by_cases c71 : (wrap64 (a0_2 - a1_1)) = 0
  · rw [if_pos c71] at H
    have c71b0 : ((wrap64 (a0_2 - a1_1)) == 0) = true := beq_iff_eq.mpr c71
    have c71b1 : ((wrap64 (a0_2 - a1_1)) != 0) = false := bne_eq_false_iff_eq.mpr c71
    clear c71
    replace H := Option.bind_eq_some_iff.mp H
    obtain ⟨t120, A720, H⟩ := H
    replace H : (if t120 = true then ((spec_l1In.f a1_1 1 a0_2).bind fun t121 => (some (4, a0_1, wrap64 (a0_2 - a1_1), a0_3, a0_4, t121))) else (some (4, a0_1, wrap64 (a0_2 - a1_1), a0_3, a0_4, false))) = some (r1, r2, r3, r4, r5, r6) := H
    have A72 := Aside0.mk A720
    clear A720
    by_cases c73 : t120 = true
    · subst c73
      have H1 : ((spec_l1In.f a1_1 1 a0_2).bind fun t121 => (some (4, a0_1, wrap64 (a0_2 - a1_1), a0_3, a0_4, t121))) = some (r1, r2, r3, r4, r5, r6) := by rw [if_pos rfl] at H; exact H
      clear H
      have H := H1
      clear H1
      replace H := Option.bind_eq_some_iff.mp H
      obtain ⟨t121, A740, H⟩ := H
      replace H : (some (4, a0_1, wrap64 (a0_2 - a1_1), a0_3, a0_4, t121)) = some (r1, r2, r3, r4, r5, r6) := H
      have A74 := Aside0.mk A740
      clear A740
      simp only [Option.some.injEq, Prod.mk.injEq] at H
      obtain ⟨rfl, rfl, rfl, rfl, rfl, rfl⟩ := H
      (try clear q1)
      (try clear q2)
      (try clear q3)
      (try clear q4)
      (try clear q5)
      (try clear q6)
      go_enter Try.func52, Try.ntmps52
      go_wp2
      refine wp_abs (fun W' => (W'.heap[w.heap.size]? = some (.cells #[.int .i64 a0_0, .int .i64 a0_1, .int .i64 a0_2, .int .i64 a0_3, .int .i64 a0_4] 25 (0, 0))) ∧ (W'.heap[w.heap.size + 1]? = some (.cells #[.int .i64 a1_0, .int .i64 a1_1] 49 (0, 0))) ∧ (W'.heap[w.heap.size + 1 + 1]? = some (.cells #[.int .i64 0, .int .i64 0, .int .i64 0, .int .i64 0, .int .i64 0] 25 (0, 0))) ∧ (W'.heap[w.heap.size + 1 + 1 + 1]? = some (.cells #[.int .i64 4, .int .i64 a0_1, .int .i64 (wrap64 (a0_2 - a1_1)), .int .i64 a0_3, .int .i64 a0_4] 25 (0, 0))) ∧ (Below w.heap.size w W')) (boxes4 w _ _ _ _) (fun w89 hW => ?_)
      obtain ⟨m0_, m1_, m2_, m3_, m4_⟩ := hW
      generalize e3_ : w.heap.size + 1 + 1 + 1 = gb118 at m3_ ⊢
      generalize e2_ : w.heap.size + 1 + 1 = gb117 at m2_ ⊢
      generalize e1_ : w.heap.size + 1 = gb116 at m1_ ⊢
      generalize e0_ : w.heap.size = gb115 at m0_ ⊢
      have BK115 := Aside0.mk m0_
      have BK116 := Aside0.mk m1_
      have BK117 := Aside0.mk m2_
      have BK118 := Aside0.mk m3_
      have HB := Aside0.mk m4_
      have GW115 := Aside0.mk (show w.heap.size ≤ gb115 by omega)
      have GE115 := Aside0.mk (show w.heap.size ≤ gb115 by omega)
      have NB115_116 := Aside0.mk (show gb115 ≠ gb116 by omega)
      have NB115_117 := Aside0.mk (show gb115 ≠ gb117 by omega)
      have NB115_118 := Aside0.mk (show gb115 ≠ gb118 by omega)
      have GW116 := Aside0.mk (show w.heap.size ≤ gb116 by omega)
      have GE116 := Aside0.mk (show w.heap.size ≤ gb116 by omega)
      have NB116_115 := Aside0.mk (show gb116 ≠ gb115 by omega)
      have NB116_117 := Aside0.mk (show gb116 ≠ gb117 by omega)
      have NB116_118 := Aside0.mk (show gb116 ≠ gb118 by omega)
      have GW117 := Aside0.mk (show w.heap.size ≤ gb117 by omega)
      have GE117 := Aside0.mk (show w.heap.size ≤ gb117 by omega)
      have NB117_115 := Aside0.mk (show gb117 ≠ gb115 by omega)
      have NB117_116 := Aside0.mk (show gb117 ≠ gb116 by omega)
      have NB117_118 := Aside0.mk (show gb117 ≠ gb118 by omega)
      have GW118 := Aside0.mk (show w.heap.size ≤ gb118 by omega)
      have GE118 := Aside0.mk (show w.heap.size ≤ gb118 by omega)
      have NB118_115 := Aside0.mk (show gb118 ≠ gb115 by omega)
      have NB118_116 := Aside0.mk (show gb118 ≠ gb116 by omega)
      have NB118_117 := Aside0.mk (show gb118 ≠ gb117 by omega)
      clear e0_ e1_ e2_ e3_ m0_ m1_ m2_ m3_ m4_
      have n0_ := Aside0.mk (blk_drew BK115.out)
      have n1_ := Aside0.mk (blk_drew BK116.out)
      have n2_ := Aside0.mk (blk_drew BK117.out)
      have n3_ := Aside0.mk (blk_drew BK118.out)
      have n4_ := Aside0.mk (below_drew1 HB.out)
      clear BK115
      clear BK116
      clear BK117
      clear BK118
      clear HB
      have BK115 := n0_
      have BK116 := n1_
      have BK117 := n2_
      have BK118 := n3_
      have HB := n4_
      clear n0_ n1_ n2_ n3_ n4_
      refine start_ (n := 13) (S := fun w' => w'.cell? ⟨gb118, 0, none⟩ = some (.int .i64 4) ∧ w'.cell? ⟨gb118, 1, none⟩ = some (.int .i64 a0_1) ∧ w'.cell? ⟨gb118, 2, none⟩ = some (.int .i64 (wrap64 (a0_2 - a1_1))) ∧ w'.cell? ⟨gb118, 3, none⟩ = some (.int .i64 a0_3) ∧ w'.cell? ⟨gb118, 4, none⟩ = some (.int .i64 a0_4) ∧ w'.cell? ⟨gb115, 0, none⟩ = some (.int .i64 a0_0) ∧ w'.cell? ⟨gb115, 1, none⟩ = some (.int .i64 a0_1) ∧ w'.cell? ⟨gb115, 2, none⟩ = some (.int .i64 a0_2) ∧ w'.cell? ⟨gb115, 3, none⟩ = some (.int .i64 a0_3) ∧ w'.cell? ⟨gb115, 4, none⟩ = some (.int .i64 a0_4) ∧ w'.cell? ⟨gb116, 0, none⟩ = some (.int .i64 a1_0) ∧ w'.cell? ⟨gb116, 1, none⟩ = some (.int .i64 a1_1)) (ds := []) #[false, false, false, false, false, false, false, false, false, false, false, false, false] (by kernel_rfl) rfl rfl ⟨(blk_cell BK118.out 0).trans rfl, (blk_cell BK118.out 1).trans rfl, (blk_cell BK118.out 2).trans rfl, (blk_cell BK118.out 3).trans rfl, (blk_cell BK118.out 4).trans rfl, (blk_cell BK115.out 0).trans rfl, (blk_cell BK115.out 1).trans rfl, (blk_cell BK115.out 2).trans rfl, (blk_cell BK115.out 3).trans rfl, (blk_cell BK115.out 4).trans rfl, (blk_cell BK116.out 0).trans rfl, (blk_cell BK116.out 1).trans rfl⟩ (fun hHeld => ?_); refine with_tabW spec_l21Make.tab11 spec_l21Make.bits11 (fun HT_ HW_ => ?_)
      generalize w89.drew = w90 at BK115 BK116 BK117 BK118 HB hHeld ⊢
      refine pure_ (i := 1) (N := some 53) (v := ?_) (a' := ?_) #[false, true, false, false, false, false, false, false, false, false, false, false, false] rfl rfl (any_of HT_.out (by kernel_rfl)) (fun _ _ _ h => h) (Or.inl ⟨by rfl, ?_⟩) ?_ ?_
      rotate_left
      · intro w'
        go_simp
        with_reducible rfl
      rotate_left
      · simp only [Act.put, List.setIfInBounds_toArray, List.set_cons_zero, List.set_cons_succ, i64_w, i32_w]
        rfl
      refine take_ (i := 0) (N := some 52) (v := ?_) (a' := ?_) #[true, true, false, false, false, false, false, false, false, false, false, false, false] rfl rfl (take_ofW HT_.out HW_.out (by kernel_rfl)) (fun _ _ _ h => h) (Or.inl ⟨by rfl, ?_⟩) hHeld ?_ ?_
      rotate_left
      · rintro w' ⟨s0, s1, s2, s3, s4, s5, s6, s7, s8, s9, s10, s11⟩
        go_simp
        with_reducible rfl
      rotate_left
      · simp only [Act.put, List.setIfInBounds_toArray, List.set_cons_zero, List.set_cons_succ, i64_w, i32_w]
        rfl
      refine take_ (i := 2) (N := some 54) (v := ?_) (a' := ?_) #[true, true, true, false, false, false, false, false, false, false, false, false, false] rfl rfl (take_ofW HT_.out HW_.out (by kernel_rfl)) (fun _ _ _ h => h) (Or.inl ⟨by rfl, ?_⟩) hHeld ?_ ?_
      rotate_left
      · rintro w' ⟨s0, s1, s2, s3, s4, s5, s6, s7, s8, s9, s10, s11⟩
        go_simp
        with_reducible rfl
      rotate_left
      · simp only [Act.put, List.setIfInBounds_toArray, List.set_cons_zero, List.set_cons_succ, i64_w, i32_w]
        rfl
      refine one_ (i := 3) (N := some 55) #[true, true, true, true, false, false, false, false, false, false, false, false, false] rfl rfl (one_of HT_.out (by kernel_rfl)) (by decide) (fun K hK => ?_)
      refine goes_ Try.func48 (by kernel_rfl) rfl #[.int .i64 a0_0] (by rfl) rfl rfl (by (try simp only [List.map_toArray, List.map_cons, List.map_nil]); first | done | rfl | (simp only [List.length_drop, List.length_take]; rfl)) ?_
      with_reducible refine (spec_l21In.calls a0_0 true _ A72.out).mono ?_
      rintro e w' ⟨rfl, ⟨nd, rfl⟩⟩
      refine ⟨_, rfl, ?_⟩
      refine hK.out _ _ ⟨(blk_cell BK118.out 0).trans rfl, (blk_cell BK118.out 1).trans rfl, (blk_cell BK118.out 2).trans rfl, (blk_cell BK118.out 3).trans rfl, (blk_cell BK118.out 4).trans rfl, (blk_cell BK115.out 0).trans rfl, (blk_cell BK115.out 1).trans rfl, (blk_cell BK115.out 2).trans rfl, (blk_cell BK115.out 3).trans rfl, (blk_cell BK115.out 4).trans rfl, (blk_cell BK116.out 0).trans rfl, (blk_cell BK116.out 1).trans rfl⟩ (fun hHeld => ?_)
      clear hK K
      refine norm_ (a' := ?_) ?_ ?_
      rotate_left
      · show Act.put _ (some 55) _ = _
        simp only [Act.put, List.setIfInBounds_toArray, List.set_cons_zero, List.set_cons_succ, i64_w, i32_w]
        rfl
      refine pure_ (i := 4) (N := some 56) (v := ?_) (a' := ?_) #[true, true, true, true, true, false, false, false, false, false, false, false, false] rfl rfl (any_of HT_.out (by kernel_rfl)) (fun _ _ _ h => h) (Or.inl ⟨by rfl, ?_⟩) ?_ ?_
      rotate_left
      · intro w'
        go_simp
        with_reducible rfl
      rotate_left
      · simp only [Act.put, List.setIfInBounds_toArray, List.set_cons_zero, List.set_cons_succ, i64_w, i32_w]
        rfl
      refine pure_ (i := 5) (N := some 57) (v := ?_) (a' := ?_) #[true, true, true, true, true, true, false, false, false, false, false, false, false] rfl rfl (any_of HT_.out (by kernel_rfl)) (fun _ _ _ h => h) (Or.inl ⟨by rfl, ?_⟩) ?_ ?_
      rotate_left
      · intro w'
        go_simp
        with_reducible rfl
      rotate_left
      · simp only [Act.put, List.setIfInBounds_toArray, List.set_cons_zero, List.set_cons_succ, i64_w, i32_w]
        rfl
      refine pure_ (i := 7) (N := some 59) (v := ?_) (a' := ?_) #[true, true, true, true, true, true, false, true, false, false, false, false, false] rfl rfl (any_of HT_.out (by kernel_rfl)) (fun _ _ _ h => h) (Or.inl ⟨by rfl, ?_⟩) ?_ ?_
      rotate_left
      · intro w'
        go_simp
        with_reducible rfl
      rotate_left
      · simp only [Act.put, List.setIfInBounds_toArray, List.set_cons_zero, List.set_cons_succ, i64_w, i32_w]
        rfl
      refine take_ (i := 6) (N := some 58) (v := ?_) (a' := ?_) #[true, true, true, true, true, true, true, true, false, false, false, false, false] rfl rfl (take_ofW HT_.out HW_.out (by kernel_rfl)) (fun _ _ _ h => h) (Or.inl ⟨by rfl, ?_⟩) hHeld ?_ ?_
      rotate_left
      · rintro w' ⟨s0, s1, s2, s3, s4, s5, s6, s7, s8, s9, s10, s11⟩
        go_simp
        with_reducible rfl
      rotate_left
      · simp only [Act.put, List.setIfInBounds_toArray, List.set_cons_zero, List.set_cons_succ, i64_w, i32_w]
        rfl
      refine take_ (i := 8) (N := some 60) (v := ?_) (a' := ?_) #[true, true, true, true, true, true, true, true, true, false, false, false, false] rfl rfl (take_ofW HT_.out HW_.out (by kernel_rfl)) (fun _ _ _ h => h) (Or.inl ⟨by rfl, ?_⟩) hHeld ?_ ?_
      rotate_left
      · rintro w' ⟨s0, s1, s2, s3, s4, s5, s6, s7, s8, s9, s10, s11⟩
        go_simp
        with_reducible rfl
      rotate_left
      · simp only [Act.put, List.setIfInBounds_toArray, List.set_cons_zero, List.set_cons_succ, i64_w, i32_w]
        rfl
      refine one_ (i := 9) (N := some 61) #[true, true, true, true, true, true, true, true, true, true, false, false, false] rfl rfl (one_of HT_.out (by kernel_rfl)) (by decide) (fun K hK => ?_)
      refine goes_ Try.func66 (by kernel_rfl) rfl #[.int .i64 a1_1, .int .i64 1, .int .i64 a0_2] (by rfl) rfl rfl (by (try simp only [List.map_toArray, List.map_cons, List.map_nil]); first | done | rfl | (simp only [List.length_drop, List.length_take]; rfl)) ?_
      with_reducible refine (spec_l1In.calls a1_1 1 a0_2 t121 _ A74.out).mono ?_
      rintro e w' ⟨rfl, ⟨nd, rfl⟩⟩
      refine ⟨_, rfl, ?_⟩
      refine hK.out _ _ ⟨(blk_cell BK118.out 0).trans rfl, (blk_cell BK118.out 1).trans rfl, (blk_cell BK118.out 2).trans rfl, (blk_cell BK118.out 3).trans rfl, (blk_cell BK118.out 4).trans rfl, (blk_cell BK115.out 0).trans rfl, (blk_cell BK115.out 1).trans rfl, (blk_cell BK115.out 2).trans rfl, (blk_cell BK115.out 3).trans rfl, (blk_cell BK115.out 4).trans rfl, (blk_cell BK116.out 0).trans rfl, (blk_cell BK116.out 1).trans rfl⟩ (fun hHeld => ?_)
      clear hK K
      refine norm_ (a' := ?_) ?_ ?_
      rotate_left
      · show Act.put _ (some 61) _ = _
        simp only [Act.put, List.setIfInBounds_toArray, List.set_cons_zero, List.set_cons_succ, i64_w, i32_w]
        rfl
      refine pure_ (i := 10) (N := some 62) (v := ?_) (a' := ?_) #[true, true, true, true, true, true, true, true, true, true, true, false, false] rfl rfl (any_of HT_.out (by kernel_rfl)) (fun _ _ _ h => h) (Or.inl ⟨by rfl, ?_⟩) ?_ ?_
      rotate_left
      · intro w'
        go_simp
        with_reducible rfl
      rotate_left
      · simp only [Act.put, List.setIfInBounds_toArray, List.set_cons_zero, List.set_cons_succ, i64_w, i32_w]
        rfl
      refine one_ (i := 11) (N := none) #[true, true, true, true, true, true, true, true, true, true, true, true, false] rfl rfl (one_of HT_.out (by kernel_rfl)) (by decide) (fun K hK => ?_)
      have hs91 : w90.cell? ⟨gb117, 0, none⟩ = some (.int .i64 0) := (blk_cell BK117.out 0).trans rfl
      have hfs91 := blk_frozen BK117.out 0
      have hns91_0 := NB115_117.out
      have hns91_1 := NB116_117.out
      have hns91_3 := NB118_117.out
      have hms91_0 := NB117_115.out
      have hms91_1 := NB117_116.out
      have hms91_3 := NB117_118.out
      have hs92 : w90.cell? ⟨gb117, 1, none⟩ = some (.int .i64 0) := (blk_cell BK117.out 1).trans rfl
      have hfs92 := blk_frozen BK117.out 1
      have hns92_0 := NB115_117.out
      have hns92_1 := NB116_117.out
      have hns92_3 := NB118_117.out
      have hms92_0 := NB117_115.out
      have hms92_1 := NB117_116.out
      have hms92_3 := NB117_118.out
      have hs93 : w90.cell? ⟨gb117, 2, none⟩ = some (.int .i64 0) := (blk_cell BK117.out 2).trans rfl
      have hfs93 := blk_frozen BK117.out 2
      have hns93_0 := NB115_117.out
      have hns93_1 := NB116_117.out
      have hns93_3 := NB118_117.out
      have hms93_0 := NB117_115.out
      have hms93_1 := NB117_116.out
      have hms93_3 := NB117_118.out
      have hs94 : w90.cell? ⟨gb117, 3, none⟩ = some (.int .i64 0) := (blk_cell BK117.out 3).trans rfl
      have hfs94 := blk_frozen BK117.out 3
      have hns94_0 := NB115_117.out
      have hns94_1 := NB116_117.out
      have hns94_3 := NB118_117.out
      have hms94_0 := NB117_115.out
      have hms94_1 := NB117_116.out
      have hms94_3 := NB117_118.out
      have hs95 : w90.cell? ⟨gb117, 4, none⟩ = some (.int .i64 0) := (blk_cell BK117.out 4).trans rfl
      have hfs95 := blk_frozen BK117.out 4
      have hns95_0 := NB115_117.out
      have hns95_1 := NB116_117.out
      have hns95_3 := NB118_117.out
      have hms95_0 := NB117_115.out
      have hms95_1 := NB117_116.out
      have hms95_3 := NB117_118.out
      refine skip_ (w1 := ?_) (by rfl) rfl ?_ ?_
      rotate_left
      · go_simp
        rfl
      refine hK.out _ _ ⟨((cell_far (p := ⟨gb117, _, none⟩) NB118_117.out _).trans (((cell_far (p := ⟨gb117, _, none⟩) NB118_117.out _).trans (((cell_far (p := ⟨gb117, _, none⟩) NB118_117.out _).trans (((cell_far (p := ⟨gb117, _, none⟩) NB118_117.out _).trans (((cell_far (p := ⟨gb117, _, none⟩) NB118_117.out _).trans (hHeld.1)))))))))), ((cell_far (p := ⟨gb117, _, none⟩) NB118_117.out _).trans (((cell_far (p := ⟨gb117, _, none⟩) NB118_117.out _).trans (((cell_far (p := ⟨gb117, _, none⟩) NB118_117.out _).trans (((cell_far (p := ⟨gb117, _, none⟩) NB118_117.out _).trans (((cell_far (p := ⟨gb117, _, none⟩) NB118_117.out _).trans (hHeld.2.1)))))))))), ((cell_far (p := ⟨gb117, _, none⟩) NB118_117.out _).trans (((cell_far (p := ⟨gb117, _, none⟩) NB118_117.out _).trans (((cell_far (p := ⟨gb117, _, none⟩) NB118_117.out _).trans (((cell_far (p := ⟨gb117, _, none⟩) NB118_117.out _).trans (((cell_far (p := ⟨gb117, _, none⟩) NB118_117.out _).trans (hHeld.2.2.1)))))))))), ((cell_far (p := ⟨gb117, _, none⟩) NB118_117.out _).trans (((cell_far (p := ⟨gb117, _, none⟩) NB118_117.out _).trans (((cell_far (p := ⟨gb117, _, none⟩) NB118_117.out _).trans (((cell_far (p := ⟨gb117, _, none⟩) NB118_117.out _).trans (((cell_far (p := ⟨gb117, _, none⟩) NB118_117.out _).trans (hHeld.2.2.2.1)))))))))), ((cell_far (p := ⟨gb117, _, none⟩) NB118_117.out _).trans (((cell_far (p := ⟨gb117, _, none⟩) NB118_117.out _).trans (((cell_far (p := ⟨gb117, _, none⟩) NB118_117.out _).trans (((cell_far (p := ⟨gb117, _, none⟩) NB118_117.out _).trans (((cell_far (p := ⟨gb117, _, none⟩) NB118_117.out _).trans (hHeld.2.2.2.2.1)))))))))), ((cell_far (p := ⟨gb117, _, none⟩) NB115_117.out _).trans (((cell_far (p := ⟨gb117, _, none⟩) NB115_117.out _).trans (((cell_far (p := ⟨gb117, _, none⟩) NB115_117.out _).trans (((cell_far (p := ⟨gb117, _, none⟩) NB115_117.out _).trans (((cell_far (p := ⟨gb117, _, none⟩) NB115_117.out _).trans (hHeld.2.2.2.2.2.1)))))))))), ((cell_far (p := ⟨gb117, _, none⟩) NB115_117.out _).trans (((cell_far (p := ⟨gb117, _, none⟩) NB115_117.out _).trans (((cell_far (p := ⟨gb117, _, none⟩) NB115_117.out _).trans (((cell_far (p := ⟨gb117, _, none⟩) NB115_117.out _).trans (((cell_far (p := ⟨gb117, _, none⟩) NB115_117.out _).trans (hHeld.2.2.2.2.2.2.1)))))))))), ((cell_far (p := ⟨gb117, _, none⟩) NB115_117.out _).trans (((cell_far (p := ⟨gb117, _, none⟩) NB115_117.out _).trans (((cell_far (p := ⟨gb117, _, none⟩) NB115_117.out _).trans (((cell_far (p := ⟨gb117, _, none⟩) NB115_117.out _).trans (((cell_far (p := ⟨gb117, _, none⟩) NB115_117.out _).trans (hHeld.2.2.2.2.2.2.2.1)))))))))), ((cell_far (p := ⟨gb117, _, none⟩) NB115_117.out _).trans (((cell_far (p := ⟨gb117, _, none⟩) NB115_117.out _).trans (((cell_far (p := ⟨gb117, _, none⟩) NB115_117.out _).trans (((cell_far (p := ⟨gb117, _, none⟩) NB115_117.out _).trans (((cell_far (p := ⟨gb117, _, none⟩) NB115_117.out _).trans (hHeld.2.2.2.2.2.2.2.2.1)))))))))), ((cell_far (p := ⟨gb117, _, none⟩) NB115_117.out _).trans (((cell_far (p := ⟨gb117, _, none⟩) NB115_117.out _).trans (((cell_far (p := ⟨gb117, _, none⟩) NB115_117.out _).trans (((cell_far (p := ⟨gb117, _, none⟩) NB115_117.out _).trans (((cell_far (p := ⟨gb117, _, none⟩) NB115_117.out _).trans (hHeld.2.2.2.2.2.2.2.2.2.1)))))))))), ((cell_far (p := ⟨gb117, _, none⟩) NB116_117.out _).trans (((cell_far (p := ⟨gb117, _, none⟩) NB116_117.out _).trans (((cell_far (p := ⟨gb117, _, none⟩) NB116_117.out _).trans (((cell_far (p := ⟨gb117, _, none⟩) NB116_117.out _).trans (((cell_far (p := ⟨gb117, _, none⟩) NB116_117.out _).trans (hHeld.2.2.2.2.2.2.2.2.2.2.1)))))))))), ((cell_far (p := ⟨gb117, _, none⟩) NB116_117.out _).trans (((cell_far (p := ⟨gb117, _, none⟩) NB116_117.out _).trans (((cell_far (p := ⟨gb117, _, none⟩) NB116_117.out _).trans (((cell_far (p := ⟨gb117, _, none⟩) NB116_117.out _).trans (((cell_far (p := ⟨gb117, _, none⟩) NB116_117.out _).trans (hHeld.2.2.2.2.2.2.2.2.2.2.2))))))))))⟩ (fun hHeld => ?_)
      clear hK K
      refine pure_ (i := 12) (N := some 5) (v := ?_) (a' := ?_) #[true, true, true, true, true, true, true, true, true, true, true, true, true] rfl rfl (any_of HT_.out (by kernel_rfl)) (fun _ _ _ h => h) (Or.inl ⟨by rfl, ?_⟩) ?_ ?_
      rotate_left
      · intro w'
        go_simp
        with_reducible rfl
      rotate_left
      · simp only [Act.put, List.setIfInBounds_toArray, List.set_cons_zero, List.set_cons_succ, i64_w, i32_w]
        rfl
      refine done_ (done_of HT_.out (by kernel_rfl)) ?_
      try go_wp2
      refine bodyPost_ret (results_ct rfl _ _ gb117 25 #[.int .i64 4, .int .i64 a0_1, .int .i64 (wrap64 (a0_2 - a1_1)), .int .i64 a0_3, .int .i64 a0_4] (0, 0) _ rfl (by (with_reducible repeat (first | refine blk_drewN ?_ _ | refine blk_drew ?_ | refine blk_alloc ?_ _)); refine blk_put (cs := #[.int .i64 4, .int .i64 a0_1, .int .i64 (wrap64 (a0_2 - a1_1)), .int .i64 a0_3, .int .i64 0]) ?_ 4 _ rfl; (with_reducible repeat (first | refine blk_drewN ?_ _ | refine blk_drew ?_ | refine blk_alloc ?_ _)); refine blk_put (cs := #[.int .i64 4, .int .i64 a0_1, .int .i64 (wrap64 (a0_2 - a1_1)), .int .i64 0, .int .i64 0]) ?_ 3 _ rfl; (with_reducible repeat (first | refine blk_drewN ?_ _ | refine blk_drew ?_ | refine blk_alloc ?_ _)); refine blk_put (cs := #[.int .i64 4, .int .i64 a0_1, .int .i64 0, .int .i64 0, .int .i64 0]) ?_ 2 _ rfl; (with_reducible repeat (first | refine blk_drewN ?_ _ | refine blk_drew ?_ | refine blk_alloc ?_ _)); refine blk_put (cs := #[.int .i64 4, .int .i64 0, .int .i64 0, .int .i64 0, .int .i64 0]) ?_ 1 _ rfl; (with_reducible repeat (first | refine blk_drewN ?_ _ | refine blk_drew ?_ | refine blk_alloc ?_ _)); refine blk_put (cs := #[.int .i64 0, .int .i64 0, .int .i64 0, .int .i64 0, .int .i64 0]) ?_ 0 _ rfl; (with_reducible repeat (first | refine blk_drewN ?_ _ | refine blk_drew ?_ | refine blk_alloc ?_ _)); exact BK117.out) Try.underlying25 rfl (by kernel_rfl)) rfl ?_
      exact ⟨by first | rfl | (simp [errW_none, errW_some] <;> rfl) | (simp [*, errW_none, errW_some] <;> rfl), by repeat (first | (with_reducible first | exact HB.out | apply below_alloc | apply pw_below_drewN | apply below_drew1 | refine below_set ?_ GE115.out | refine below_set ?_ GE116.out | refine below_set ?_ GE117.out | refine below_set ?_ GE118.out) | exact HB.out)⟩
    · replace c73 := Bool.eq_false_iff.mpr c73
      subst c73
      have H1 : (some (4, a0_1, wrap64 (a0_2 - a1_1), a0_3, a0_4, false)) = some (r1, r2, r3, r4, r5, r6) := by rw [if_neg (show ¬ (false = true) by decide)] at H; exact H
      clear H
      have H := H1
      clear H1
      simp only [Option.some.injEq, Prod.mk.injEq] at H
      obtain ⟨rfl, rfl, rfl, rfl, rfl, rfl⟩ := H
      (try clear q1)
      (try clear q2)
      (try clear q3)
      (try clear q4)
      (try clear q5)
      (try clear q6)
      go_enter Try.func52, Try.ntmps52
      go_wp2
      refine wp_abs (fun W' => (W'.heap[w.heap.size]? = some (.cells #[.int .i64 a0_0, .int .i64 a0_1, .int .i64 a0_2, .int .i64 a0_3, .int .i64 a0_4] 25 (0, 0))) ∧ (W'.heap[w.heap.size + 1]? = some (.cells #[.int .i64 a1_0, .int .i64 a1_1] 49 (0, 0))) ∧ (W'.heap[w.heap.size + 1 + 1]? = some (.cells #[.int .i64 0, .int .i64 0, .int .i64 0, .int .i64 0, .int .i64 0] 25 (0, 0))) ∧ (W'.heap[w.heap.size + 1 + 1 + 1]? = some (.cells #[.int .i64 4, .int .i64 a0_1, .int .i64 (wrap64 (a0_2 - a1_1)), .int .i64 a0_3, .int .i64 a0_4] 25 (0, 0))) ∧ (Below w.heap.size w W')) (boxes4 w _ _ _ _) (fun w110 hW => ?_)
      obtain ⟨m0_, m1_, m2_, m3_, m4_⟩ := hW
      generalize e3_ : w.heap.size + 1 + 1 + 1 = gb118 at m3_ ⊢
      generalize e2_ : w.heap.size + 1 + 1 = gb117 at m2_ ⊢
      generalize e1_ : w.heap.size + 1 = gb116 at m1_ ⊢
      generalize e0_ : w.heap.size = gb115 at m0_ ⊢
      have BK115 := Aside0.mk m0_
      have BK116 := Aside0.mk m1_
      have BK117 := Aside0.mk m2_
      have BK118 := Aside0.mk m3_
      have HB := Aside0.mk m4_
      have GW115 := Aside0.mk (show w.heap.size ≤ gb115 by omega)
      have GE115 := Aside0.mk (show w.heap.size ≤ gb115 by omega)
      have NB115_116 := Aside0.mk (show gb115 ≠ gb116 by omega)
      have NB115_117 := Aside0.mk (show gb115 ≠ gb117 by omega)
      have NB115_118 := Aside0.mk (show gb115 ≠ gb118 by omega)
      have GW116 := Aside0.mk (show w.heap.size ≤ gb116 by omega)
      have GE116 := Aside0.mk (show w.heap.size ≤ gb116 by omega)
      have NB116_115 := Aside0.mk (show gb116 ≠ gb115 by omega)
      have NB116_117 := Aside0.mk (show gb116 ≠ gb117 by omega)
      have NB116_118 := Aside0.mk (show gb116 ≠ gb118 by omega)
      have GW117 := Aside0.mk (show w.heap.size ≤ gb117 by omega)
      have GE117 := Aside0.mk (show w.heap.size ≤ gb117 by omega)
      have NB117_115 := Aside0.mk (show gb117 ≠ gb115 by omega)
      have NB117_116 := Aside0.mk (show gb117 ≠ gb116 by omega)
      have NB117_118 := Aside0.mk (show gb117 ≠ gb118 by omega)
      have GW118 := Aside0.mk (show w.heap.size ≤ gb118 by omega)
      have GE118 := Aside0.mk (show w.heap.size ≤ gb118 by omega)
      have NB118_115 := Aside0.mk (show gb118 ≠ gb115 by omega)
      have NB118_116 := Aside0.mk (show gb118 ≠ gb116 by omega)
      have NB118_117 := Aside0.mk (show gb118 ≠ gb117 by omega)
      clear e0_ e1_ e2_ e3_ m0_ m1_ m2_ m3_ m4_
      have n0_ := Aside0.mk (blk_drew BK115.out)
      have n1_ := Aside0.mk (blk_drew BK116.out)
      have n2_ := Aside0.mk (blk_drew BK117.out)
      have n3_ := Aside0.mk (blk_drew BK118.out)
      have n4_ := Aside0.mk (below_drew1 HB.out)
      clear BK115
      clear BK116
      clear BK117
      clear BK118
      clear HB
      have BK115 := n0_
      have BK116 := n1_
      have BK117 := n2_
      have BK118 := n3_
      have HB := n4_
      clear n0_ n1_ n2_ n3_ n4_
      refine start_ (n := 13) (S := fun w' => w'.cell? ⟨gb118, 0, none⟩ = some (.int .i64 4) ∧ w'.cell? ⟨gb118, 1, none⟩ = some (.int .i64 a0_1) ∧ w'.cell? ⟨gb118, 2, none⟩ = some (.int .i64 (wrap64 (a0_2 - a1_1))) ∧ w'.cell? ⟨gb118, 3, none⟩ = some (.int .i64 a0_3) ∧ w'.cell? ⟨gb118, 4, none⟩ = some (.int .i64 a0_4) ∧ w'.cell? ⟨gb115, 0, none⟩ = some (.int .i64 a0_0) ∧ w'.cell? ⟨gb115, 1, none⟩ = some (.int .i64 a0_1) ∧ w'.cell? ⟨gb115, 2, none⟩ = some (.int .i64 a0_2) ∧ w'.cell? ⟨gb115, 3, none⟩ = some (.int .i64 a0_3) ∧ w'.cell? ⟨gb115, 4, none⟩ = some (.int .i64 a0_4)) (ds := []) #[false, false, false, false, false, false, false, false, false, false, false, false, false] (by kernel_rfl) rfl rfl ⟨(blk_cell BK118.out 0).trans rfl, (blk_cell BK118.out 1).trans rfl, (blk_cell BK118.out 2).trans rfl, (blk_cell BK118.out 3).trans rfl, (blk_cell BK118.out 4).trans rfl, (blk_cell BK115.out 0).trans rfl, (blk_cell BK115.out 1).trans rfl, (blk_cell BK115.out 2).trans rfl, (blk_cell BK115.out 3).trans rfl, (blk_cell BK115.out 4).trans rfl⟩ (fun hHeld => ?_); refine with_tabW spec_l21Make.tab11 spec_l21Make.bits11 (fun HT_ HW_ => ?_)
      generalize w110.drew = w111 at BK115 BK116 BK117 BK118 HB hHeld ⊢
      refine pure_ (i := 1) (N := some 53) (v := ?_) (a' := ?_) #[false, true, false, false, false, false, false, false, false, false, false, false, false] rfl rfl (any_of HT_.out (by kernel_rfl)) (fun _ _ _ h => h) (Or.inl ⟨by rfl, ?_⟩) ?_ ?_
      rotate_left
      · intro w'
        go_simp
        with_reducible rfl
      rotate_left
      · simp only [Act.put, List.setIfInBounds_toArray, List.set_cons_zero, List.set_cons_succ, i64_w, i32_w]
        rfl
      refine take_ (i := 0) (N := some 52) (v := ?_) (a' := ?_) #[true, true, false, false, false, false, false, false, false, false, false, false, false] rfl rfl (take_ofW HT_.out HW_.out (by kernel_rfl)) (fun _ _ _ h => h) (Or.inl ⟨by rfl, ?_⟩) hHeld ?_ ?_
      rotate_left
      · rintro w' ⟨s0, s1, s2, s3, s4, s5, s6, s7, s8, s9⟩
        go_simp
        with_reducible rfl
      rotate_left
      · simp only [Act.put, List.setIfInBounds_toArray, List.set_cons_zero, List.set_cons_succ, i64_w, i32_w]
        rfl
      refine take_ (i := 2) (N := some 54) (v := ?_) (a' := ?_) #[true, true, true, false, false, false, false, false, false, false, false, false, false] rfl rfl (take_ofW HT_.out HW_.out (by kernel_rfl)) (fun _ _ _ h => h) (Or.inl ⟨by rfl, ?_⟩) hHeld ?_ ?_
      rotate_left
      · rintro w' ⟨s0, s1, s2, s3, s4, s5, s6, s7, s8, s9⟩
        go_simp
        with_reducible rfl
      rotate_left
      · simp only [Act.put, List.setIfInBounds_toArray, List.set_cons_zero, List.set_cons_succ, i64_w, i32_w]
        rfl
      refine one_ (i := 3) (N := some 55) #[true, true, true, true, false, false, false, false, false, false, false, false, false] rfl rfl (one_of HT_.out (by kernel_rfl)) (by decide) (fun K hK => ?_)
      refine goes_ Try.func48 (by kernel_rfl) rfl #[.int .i64 a0_0] (by rfl) rfl rfl (by (try simp only [List.map_toArray, List.map_cons, List.map_nil]); first | done | rfl | (simp only [List.length_drop, List.length_take]; rfl)) ?_
      with_reducible refine (spec_l21In.calls a0_0 false _ A72.out).mono ?_
      rintro e w' ⟨rfl, ⟨nd, rfl⟩⟩
      refine ⟨_, rfl, ?_⟩
      refine hK.out _ _ ⟨(blk_cell BK118.out 0).trans rfl, (blk_cell BK118.out 1).trans rfl, (blk_cell BK118.out 2).trans rfl, (blk_cell BK118.out 3).trans rfl, (blk_cell BK118.out 4).trans rfl, (blk_cell BK115.out 0).trans rfl, (blk_cell BK115.out 1).trans rfl, (blk_cell BK115.out 2).trans rfl, (blk_cell BK115.out 3).trans rfl, (blk_cell BK115.out 4).trans rfl⟩ (fun hHeld => ?_)
      clear hK K
      refine norm_ (a' := ?_) ?_ ?_
      rotate_left
      · show Act.put _ (some 55) _ = _
        simp only [Act.put, List.setIfInBounds_toArray, List.set_cons_zero, List.set_cons_succ, i64_w, i32_w]
        rfl
      refine pure_ (i := 4) (N := some 56) (v := ?_) (a' := ?_) #[true, true, true, true, true, false, false, false, false, false, false, false, false] rfl rfl (any_of HT_.out (by kernel_rfl)) (fun _ _ _ h => h) (Or.inl ⟨by rfl, ?_⟩) ?_ ?_
      rotate_left
      · intro w'
        go_simp
        with_reducible rfl
      rotate_left
      · simp only [Act.put, List.setIfInBounds_toArray, List.set_cons_zero, List.set_cons_succ, i64_w, i32_w]
        rfl
      refine pure_ (i := 5) (N := some 57) (v := undef) (a' := ?_) #[true, true, true, true, true, true, false, false, false, false, false, false, false] rfl rfl (any_of HT_.out (by kernel_rfl)) (fun _ _ _ h => h) (Or.inr ⟨by rfl, rfl⟩) ?_ ?_
      rotate_left
      · simp only [Act.put, List.setIfInBounds_toArray, List.set_cons_zero, List.set_cons_succ, i64_w, i32_w]
        rfl
      refine pure_ (i := 6) (N := some 58) (v := undef) (a' := ?_) #[true, true, true, true, true, true, true, false, false, false, false, false, false] rfl rfl (any_of HT_.out (by kernel_rfl)) (fun _ _ _ h => h) (Or.inr ⟨by rfl, rfl⟩) ?_ ?_
      rotate_left
      · simp only [Act.put, List.setIfInBounds_toArray, List.set_cons_zero, List.set_cons_succ, i64_w, i32_w]
        rfl
      refine pure_ (i := 7) (N := some 59) (v := undef) (a' := ?_) #[true, true, true, true, true, true, true, true, false, false, false, false, false] rfl rfl (any_of HT_.out (by kernel_rfl)) (fun _ _ _ h => h) (Or.inr ⟨by rfl, rfl⟩) ?_ ?_
      rotate_left
      · simp only [Act.put, List.setIfInBounds_toArray, List.set_cons_zero, List.set_cons_succ, i64_w, i32_w]
        rfl
      refine pure_ (i := 8) (N := some 60) (v := undef) (a' := ?_) #[true, true, true, true, true, true, true, true, true, false, false, false, false] rfl rfl (any_of HT_.out (by kernel_rfl)) (fun _ _ _ h => h) (Or.inr ⟨by rfl, rfl⟩) ?_ ?_
      rotate_left
      · simp only [Act.put, List.setIfInBounds_toArray, List.set_cons_zero, List.set_cons_succ, i64_w, i32_w]
        rfl
      refine pure_ (i := 9) (N := some 61) (v := undef) (a' := ?_) #[true, true, true, true, true, true, true, true, true, true, false, false, false] rfl rfl (any_of HT_.out (by kernel_rfl)) (fun _ _ _ h => h) (Or.inr ⟨by rfl, rfl⟩) ?_ ?_
      rotate_left
      · simp only [Act.put, List.setIfInBounds_toArray, List.set_cons_zero, List.set_cons_succ, i64_w, i32_w]
        rfl
      refine pure_ (i := 10) (N := some 62) (v := ?_) (a' := ?_) #[true, true, true, true, true, true, true, true, true, true, true, false, false] rfl rfl (any_of HT_.out (by kernel_rfl)) (fun _ _ _ h => h) (Or.inl ⟨by rfl, ?_⟩) ?_ ?_
      rotate_left
      · intro w'
        go_simp
        with_reducible rfl
      rotate_left
      · simp only [Act.put, List.setIfInBounds_toArray, List.set_cons_zero, List.set_cons_succ, i64_w, i32_w]
        rfl
      refine one_ (i := 11) (N := none) #[true, true, true, true, true, true, true, true, true, true, true, true, false] rfl rfl (one_of HT_.out (by kernel_rfl)) (by decide) (fun K hK => ?_)
      have hs112 : w111.cell? ⟨gb117, 0, none⟩ = some (.int .i64 0) := (blk_cell BK117.out 0).trans rfl
      have hfs112 := blk_frozen BK117.out 0
      have hns112_0 := NB115_117.out
      have hns112_1 := NB116_117.out
      have hns112_3 := NB118_117.out
      have hms112_0 := NB117_115.out
      have hms112_1 := NB117_116.out
      have hms112_3 := NB117_118.out
      have hs113 : w111.cell? ⟨gb117, 1, none⟩ = some (.int .i64 0) := (blk_cell BK117.out 1).trans rfl
      have hfs113 := blk_frozen BK117.out 1
      have hns113_0 := NB115_117.out
      have hns113_1 := NB116_117.out
      have hns113_3 := NB118_117.out
      have hms113_0 := NB117_115.out
      have hms113_1 := NB117_116.out
      have hms113_3 := NB117_118.out
      have hs114 : w111.cell? ⟨gb117, 2, none⟩ = some (.int .i64 0) := (blk_cell BK117.out 2).trans rfl
      have hfs114 := blk_frozen BK117.out 2
      have hns114_0 := NB115_117.out
      have hns114_1 := NB116_117.out
      have hns114_3 := NB118_117.out
      have hms114_0 := NB117_115.out
      have hms114_1 := NB117_116.out
      have hms114_3 := NB117_118.out
      have hs115 : w111.cell? ⟨gb117, 3, none⟩ = some (.int .i64 0) := (blk_cell BK117.out 3).trans rfl
      have hfs115 := blk_frozen BK117.out 3
      have hns115_0 := NB115_117.out
      have hns115_1 := NB116_117.out
      have hns115_3 := NB118_117.out
      have hms115_0 := NB117_115.out
      have hms115_1 := NB117_116.out
      have hms115_3 := NB117_118.out
      have hs116 : w111.cell? ⟨gb117, 4, none⟩ = some (.int .i64 0) := (blk_cell BK117.out 4).trans rfl
      have hfs116 := blk_frozen BK117.out 4
      have hns116_0 := NB115_117.out
      have hns116_1 := NB116_117.out
      have hns116_3 := NB118_117.out
      have hms116_0 := NB117_115.out
      have hms116_1 := NB117_116.out
      have hms116_3 := NB117_118.out
      refine skip_ (w1 := ?_) (by rfl) rfl ?_ ?_
      rotate_left
      · go_simp
        rfl
      refine hK.out _ _ ⟨((cell_far (p := ⟨gb117, _, none⟩) NB118_117.out _).trans (((cell_far (p := ⟨gb117, _, none⟩) NB118_117.out _).trans (((cell_far (p := ⟨gb117, _, none⟩) NB118_117.out _).trans (((cell_far (p := ⟨gb117, _, none⟩) NB118_117.out _).trans (((cell_far (p := ⟨gb117, _, none⟩) NB118_117.out _).trans (hHeld.1)))))))))), ((cell_far (p := ⟨gb117, _, none⟩) NB118_117.out _).trans (((cell_far (p := ⟨gb117, _, none⟩) NB118_117.out _).trans (((cell_far (p := ⟨gb117, _, none⟩) NB118_117.out _).trans (((cell_far (p := ⟨gb117, _, none⟩) NB118_117.out _).trans (((cell_far (p := ⟨gb117, _, none⟩) NB118_117.out _).trans (hHeld.2.1)))))))))), ((cell_far (p := ⟨gb117, _, none⟩) NB118_117.out _).trans (((cell_far (p := ⟨gb117, _, none⟩) NB118_117.out _).trans (((cell_far (p := ⟨gb117, _, none⟩) NB118_117.out _).trans (((cell_far (p := ⟨gb117, _, none⟩) NB118_117.out _).trans (((cell_far (p := ⟨gb117, _, none⟩) NB118_117.out _).trans (hHeld.2.2.1)))))))))), ((cell_far (p := ⟨gb117, _, none⟩) NB118_117.out _).trans (((cell_far (p := ⟨gb117, _, none⟩) NB118_117.out _).trans (((cell_far (p := ⟨gb117, _, none⟩) NB118_117.out _).trans (((cell_far (p := ⟨gb117, _, none⟩) NB118_117.out _).trans (((cell_far (p := ⟨gb117, _, none⟩) NB118_117.out _).trans (hHeld.2.2.2.1)))))))))), ((cell_far (p := ⟨gb117, _, none⟩) NB118_117.out _).trans (((cell_far (p := ⟨gb117, _, none⟩) NB118_117.out _).trans (((cell_far (p := ⟨gb117, _, none⟩) NB118_117.out _).trans (((cell_far (p := ⟨gb117, _, none⟩) NB118_117.out _).trans (((cell_far (p := ⟨gb117, _, none⟩) NB118_117.out _).trans (hHeld.2.2.2.2.1)))))))))), ((cell_far (p := ⟨gb117, _, none⟩) NB115_117.out _).trans (((cell_far (p := ⟨gb117, _, none⟩) NB115_117.out _).trans (((cell_far (p := ⟨gb117, _, none⟩) NB115_117.out _).trans (((cell_far (p := ⟨gb117, _, none⟩) NB115_117.out _).trans (((cell_far (p := ⟨gb117, _, none⟩) NB115_117.out _).trans (hHeld.2.2.2.2.2.1)))))))))), ((cell_far (p := ⟨gb117, _, none⟩) NB115_117.out _).trans (((cell_far (p := ⟨gb117, _, none⟩) NB115_117.out _).trans (((cell_far (p := ⟨gb117, _, none⟩) NB115_117.out _).trans (((cell_far (p := ⟨gb117, _, none⟩) NB115_117.out _).trans (((cell_far (p := ⟨gb117, _, none⟩) NB115_117.out _).trans (hHeld.2.2.2.2.2.2.1)))))))))), ((cell_far (p := ⟨gb117, _, none⟩) NB115_117.out _).trans (((cell_far (p := ⟨gb117, _, none⟩) NB115_117.out _).trans (((cell_far (p := ⟨gb117, _, none⟩) NB115_117.out _).trans (((cell_far (p := ⟨gb117, _, none⟩) NB115_117.out _).trans (((cell_far (p := ⟨gb117, _, none⟩) NB115_117.out _).trans (hHeld.2.2.2.2.2.2.2.1)))))))))), ((cell_far (p := ⟨gb117, _, none⟩) NB115_117.out _).trans (((cell_far (p := ⟨gb117, _, none⟩) NB115_117.out _).trans (((cell_far (p := ⟨gb117, _, none⟩) NB115_117.out _).trans (((cell_far (p := ⟨gb117, _, none⟩) NB115_117.out _).trans (((cell_far (p := ⟨gb117, _, none⟩) NB115_117.out _).trans (hHeld.2.2.2.2.2.2.2.2.1)))))))))), ((cell_far (p := ⟨gb117, _, none⟩) NB115_117.out _).trans (((cell_far (p := ⟨gb117, _, none⟩) NB115_117.out _).trans (((cell_far (p := ⟨gb117, _, none⟩) NB115_117.out _).trans (((cell_far (p := ⟨gb117, _, none⟩) NB115_117.out _).trans (((cell_far (p := ⟨gb117, _, none⟩) NB115_117.out _).trans (hHeld.2.2.2.2.2.2.2.2.2))))))))))⟩ (fun hHeld => ?_)
      clear hK K
      refine pure_ (i := 12) (N := some 5) (v := ?_) (a' := ?_) #[true, true, true, true, true, true, true, true, true, true, true, true, true] rfl rfl (any_of HT_.out (by kernel_rfl)) (fun _ _ _ h => h) (Or.inl ⟨by rfl, ?_⟩) ?_ ?_
      rotate_left
      · intro w'
        go_simp
        with_reducible rfl
      rotate_left
      · simp only [Act.put, List.setIfInBounds_toArray, List.set_cons_zero, List.set_cons_succ, i64_w, i32_w]
        rfl
      refine done_ (done_of HT_.out (by kernel_rfl)) ?_
      try go_wp2
      refine bodyPost_ret (results_ct rfl _ _ gb117 25 #[.int .i64 4, .int .i64 a0_1, .int .i64 (wrap64 (a0_2 - a1_1)), .int .i64 a0_3, .int .i64 a0_4] (0, 0) _ rfl (by (with_reducible repeat (first | refine blk_drewN ?_ _ | refine blk_drew ?_ | refine blk_alloc ?_ _)); refine blk_put (cs := #[.int .i64 4, .int .i64 a0_1, .int .i64 (wrap64 (a0_2 - a1_1)), .int .i64 a0_3, .int .i64 0]) ?_ 4 _ rfl; (with_reducible repeat (first | refine blk_drewN ?_ _ | refine blk_drew ?_ | refine blk_alloc ?_ _)); refine blk_put (cs := #[.int .i64 4, .int .i64 a0_1, .int .i64 (wrap64 (a0_2 - a1_1)), .int .i64 0, .int .i64 0]) ?_ 3 _ rfl; (with_reducible repeat (first | refine blk_drewN ?_ _ | refine blk_drew ?_ | refine blk_alloc ?_ _)); refine blk_put (cs := #[.int .i64 4, .int .i64 a0_1, .int .i64 0, .int .i64 0, .int .i64 0]) ?_ 2 _ rfl; (with_reducible repeat (first | refine blk_drewN ?_ _ | refine blk_drew ?_ | refine blk_alloc ?_ _)); refine blk_put (cs := #[.int .i64 4, .int .i64 0, .int .i64 0, .int .i64 0, .int .i64 0]) ?_ 1 _ rfl; (with_reducible repeat (first | refine blk_drewN ?_ _ | refine blk_drew ?_ | refine blk_alloc ?_ _)); refine blk_put (cs := #[.int .i64 0, .int .i64 0, .int .i64 0, .int .i64 0, .int .i64 0]) ?_ 0 _ rfl; (with_reducible repeat (first | refine blk_drewN ?_ _ | refine blk_drew ?_ | refine blk_alloc ?_ _)); exact BK117.out) Try.underlying25 rfl (by kernel_rfl)) rfl ?_
      exact ⟨by first | rfl | (simp [errW_none, errW_some] <;> rfl) | (simp [*, errW_none, errW_some] <;> rfl), by repeat (first | (with_reducible first | exact HB.out | apply below_alloc | apply pw_below_drewN | apply below_drew1 | refine below_set ?_ GE115.out | refine below_set ?_ GE116.out | refine below_set ?_ GE117.out | refine below_set ?_ GE118.out) | exact HB.out)⟩
  · rw [if_neg c71] at H
    have c71b0 : ((wrap64 (a0_2 - a1_1)) == 0) = false := beq_eq_false_iff_ne.mpr c71
    have c71b1 : ((wrap64 (a0_2 - a1_1)) != 0) = true := bne_iff_ne.mpr c71
    replace H := Option.bind_eq_some_iff.mp H
    obtain ⟨t122, A1170, H⟩ := H
    replace H : (if t122 = true then ((spec_l1In.f a1_1 1 a0_2).bind fun t123 => (some (a0_0, a0_1, wrap64 (a0_2 - a1_1), a0_3, a0_4, t123))) else (some (a0_0, a0_1, wrap64 (a0_2 - a1_1), a0_3, a0_4, false))) = some (r1, r2, r3, r4, r5, r6) := H
    have A117 := Aside0.mk A1170
    clear A1170
    by_cases c118 : t122 = true
    · subst c118
      have H1 : ((spec_l1In.f a1_1 1 a0_2).bind fun t123 => (some (a0_0, a0_1, wrap64 (a0_2 - a1_1), a0_3, a0_4, t123))) = some (r1, r2, r3, r4, r5, r6) := by rw [if_pos rfl] at H; exact H
      clear H
      have H := H1
      clear H1
      replace H := Option.bind_eq_some_iff.mp H
      obtain ⟨t123, A1190, H⟩ := H
      replace H : (some (a0_0, a0_1, wrap64 (a0_2 - a1_1), a0_3, a0_4, t123)) = some (r1, r2, r3, r4, r5, r6) := H
      have A119 := Aside0.mk A1190
      clear A1190
      simp only [Option.some.injEq, Prod.mk.injEq] at H
      obtain ⟨rfl, rfl, rfl, rfl, rfl, rfl⟩ := H
      (try clear q1)
      (try clear q2)
      (try clear q3)
      (try clear q4)
      (try clear q5)
      (try clear q6)
      go_enter Try.func52, Try.ntmps52
      go_wp2
      refine wp_abs (fun W' => (W'.heap[w.heap.size]? = some (.cells #[.int .i64 a0_0, .int .i64 a0_1, .int .i64 a0_2, .int .i64 a0_3, .int .i64 a0_4] 25 (0, 0))) ∧ (W'.heap[w.heap.size + 1]? = some (.cells #[.int .i64 a1_0, .int .i64 a1_1] 49 (0, 0))) ∧ (W'.heap[w.heap.size + 1 + 1]? = some (.cells #[.int .i64 0, .int .i64 0, .int .i64 0, .int .i64 0, .int .i64 0] 25 (0, 0))) ∧ (W'.heap[w.heap.size + 1 + 1 + 1]? = some (.cells #[.int .i64 a0_0, .int .i64 a0_1, .int .i64 (wrap64 (a0_2 - a1_1)), .int .i64 a0_3, .int .i64 a0_4] 25 (0, 0))) ∧ (Below w.heap.size w W')) (boxes4 w _ _ _ _) (fun w134 hW => ?_)
      obtain ⟨m0_, m1_, m2_, m3_, m4_⟩ := hW
      generalize e3_ : w.heap.size + 1 + 1 + 1 = gb118 at m3_ ⊢
      generalize e2_ : w.heap.size + 1 + 1 = gb117 at m2_ ⊢
      generalize e1_ : w.heap.size + 1 = gb116 at m1_ ⊢
      generalize e0_ : w.heap.size = gb115 at m0_ ⊢
      have BK115 := Aside0.mk m0_
      have BK116 := Aside0.mk m1_
      have BK117 := Aside0.mk m2_
      have BK118 := Aside0.mk m3_
      have HB := Aside0.mk m4_
      have GW115 := Aside0.mk (show w.heap.size ≤ gb115 by omega)
      have GE115 := Aside0.mk (show w.heap.size ≤ gb115 by omega)
      have NB115_116 := Aside0.mk (show gb115 ≠ gb116 by omega)
      have NB115_117 := Aside0.mk (show gb115 ≠ gb117 by omega)
      have NB115_118 := Aside0.mk (show gb115 ≠ gb118 by omega)
      have GW116 := Aside0.mk (show w.heap.size ≤ gb116 by omega)
      have GE116 := Aside0.mk (show w.heap.size ≤ gb116 by omega)
      have NB116_115 := Aside0.mk (show gb116 ≠ gb115 by omega)
      have NB116_117 := Aside0.mk (show gb116 ≠ gb117 by omega)
      have NB116_118 := Aside0.mk (show gb116 ≠ gb118 by omega)
      have GW117 := Aside0.mk (show w.heap.size ≤ gb117 by omega)
      have GE117 := Aside0.mk (show w.heap.size ≤ gb117 by omega)
      have NB117_115 := Aside0.mk (show gb117 ≠ gb115 by omega)
      have NB117_116 := Aside0.mk (show gb117 ≠ gb116 by omega)
      have NB117_118 := Aside0.mk (show gb117 ≠ gb118 by omega)
      have GW118 := Aside0.mk (show w.heap.size ≤ gb118 by omega)
      have GE118 := Aside0.mk (show w.heap.size ≤ gb118 by omega)
      have NB118_115 := Aside0.mk (show gb118 ≠ gb115 by omega)
      have NB118_116 := Aside0.mk (show gb118 ≠ gb116 by omega)
      have NB118_117 := Aside0.mk (show gb118 ≠ gb117 by omega)
      clear e0_ e1_ e2_ e3_ m0_ m1_ m2_ m3_ m4_
      have n0_ := Aside0.mk (blk_drew BK115.out)
      have n1_ := Aside0.mk (blk_drew BK116.out)
      have n2_ := Aside0.mk (blk_drew BK117.out)
      have n3_ := Aside0.mk (blk_drew BK118.out)
      have n4_ := Aside0.mk (below_drew1 HB.out)
      clear BK115
      clear BK116
      clear BK117
      clear BK118
      clear HB
      have BK115 := n0_
      have BK116 := n1_
      have BK117 := n2_
      have BK118 := n3_
      have HB := n4_
      clear n0_ n1_ n2_ n3_ n4_
      refine start_ (n := 13) (S := fun w' => w'.cell? ⟨gb118, 0, none⟩ = some (.int .i64 a0_0) ∧ w'.cell? ⟨gb118, 1, none⟩ = some (.int .i64 a0_1) ∧ w'.cell? ⟨gb118, 2, none⟩ = some (.int .i64 (wrap64 (a0_2 - a1_1))) ∧ w'.cell? ⟨gb118, 3, none⟩ = some (.int .i64 a0_3) ∧ w'.cell? ⟨gb118, 4, none⟩ = some (.int .i64 a0_4) ∧ w'.cell? ⟨gb115, 0, none⟩ = some (.int .i64 a0_0) ∧ w'.cell? ⟨gb115, 1, none⟩ = some (.int .i64 a0_1) ∧ w'.cell? ⟨gb115, 2, none⟩ = some (.int .i64 a0_2) ∧ w'.cell? ⟨gb115, 3, none⟩ = some (.int .i64 a0_3) ∧ w'.cell? ⟨gb115, 4, none⟩ = some (.int .i64 a0_4) ∧ w'.cell? ⟨gb116, 0, none⟩ = some (.int .i64 a1_0) ∧ w'.cell? ⟨gb116, 1, none⟩ = some (.int .i64 a1_1)) (ds := []) #[false, false, false, false, false, false, false, false, false, false, false, false, false] (by kernel_rfl) rfl rfl ⟨(blk_cell BK118.out 0).trans rfl, (blk_cell BK118.out 1).trans rfl, (blk_cell BK118.out 2).trans rfl, (blk_cell BK118.out 3).trans rfl, (blk_cell BK118.out 4).trans rfl, (blk_cell BK115.out 0).trans rfl, (blk_cell BK115.out 1).trans rfl, (blk_cell BK115.out 2).trans rfl, (blk_cell BK115.out 3).trans rfl, (blk_cell BK115.out 4).trans rfl, (blk_cell BK116.out 0).trans rfl, (blk_cell BK116.out 1).trans rfl⟩ (fun hHeld => ?_); refine with_tabW spec_l21Make.tab11 spec_l21Make.bits11 (fun HT_ HW_ => ?_)
      generalize w134.drew = w135 at BK115 BK116 BK117 BK118 HB hHeld ⊢
      refine pure_ (i := 1) (N := some 53) (v := ?_) (a' := ?_) #[false, true, false, false, false, false, false, false, false, false, false, false, false] rfl rfl (any_of HT_.out (by kernel_rfl)) (fun _ _ _ h => h) (Or.inl ⟨by rfl, ?_⟩) ?_ ?_
      rotate_left
      · intro w'
        go_simp
        with_reducible rfl
      rotate_left
      · simp only [Act.put, List.setIfInBounds_toArray, List.set_cons_zero, List.set_cons_succ, i64_w, i32_w]
        rfl
      refine take_ (i := 0) (N := some 52) (v := ?_) (a' := ?_) #[true, true, false, false, false, false, false, false, false, false, false, false, false] rfl rfl (take_ofW HT_.out HW_.out (by kernel_rfl)) (fun _ _ _ h => h) (Or.inl ⟨by rfl, ?_⟩) hHeld ?_ ?_
      rotate_left
      · rintro w' ⟨s0, s1, s2, s3, s4, s5, s6, s7, s8, s9, s10, s11⟩
        go_simp
        with_reducible rfl
      rotate_left
      · simp only [Act.put, List.setIfInBounds_toArray, List.set_cons_zero, List.set_cons_succ, i64_w, i32_w]
        rfl
      refine take_ (i := 2) (N := some 54) (v := ?_) (a' := ?_) #[true, true, true, false, false, false, false, false, false, false, false, false, false] rfl rfl (take_ofW HT_.out HW_.out (by kernel_rfl)) (fun _ _ _ h => h) (Or.inl ⟨by rfl, ?_⟩) hHeld ?_ ?_
      rotate_left
      · rintro w' ⟨s0, s1, s2, s3, s4, s5, s6, s7, s8, s9, s10, s11⟩
        go_simp
        with_reducible rfl
      rotate_left
      · simp only [Act.put, List.setIfInBounds_toArray, List.set_cons_zero, List.set_cons_succ, i64_w, i32_w]
        rfl
      refine one_ (i := 3) (N := some 55) #[true, true, true, true, false, false, false, false, false, false, false, false, false] rfl rfl (one_of HT_.out (by kernel_rfl)) (by decide) (fun K hK => ?_)
      refine goes_ Try.func48 (by kernel_rfl) rfl #[.int .i64 a0_0] (by rfl) rfl rfl (by (try simp only [List.map_toArray, List.map_cons, List.map_nil]); first | done | rfl | (simp only [List.length_drop, List.length_take]; rfl)) ?_
      with_reducible refine (spec_l21In.calls a0_0 true _ A117.out).mono ?_
      rintro e w' ⟨rfl, ⟨nd, rfl⟩⟩
      refine ⟨_, rfl, ?_⟩
      refine hK.out _ _ ⟨(blk_cell BK118.out 0).trans rfl, (blk_cell BK118.out 1).trans rfl, (blk_cell BK118.out 2).trans rfl, (blk_cell BK118.out 3).trans rfl, (blk_cell BK118.out 4).trans rfl, (blk_cell BK115.out 0).trans rfl, (blk_cell BK115.out 1).trans rfl, (blk_cell BK115.out 2).trans rfl, (blk_cell BK115.out 3).trans rfl, (blk_cell BK115.out 4).trans rfl, (blk_cell BK116.out 0).trans rfl, (blk_cell BK116.out 1).trans rfl⟩ (fun hHeld => ?_)
      clear hK K
      refine norm_ (a' := ?_) ?_ ?_
      rotate_left
      · show Act.put _ (some 55) _ = _
        simp only [Act.put, List.setIfInBounds_toArray, List.set_cons_zero, List.set_cons_succ, i64_w, i32_w]
        rfl
      refine pure_ (i := 4) (N := some 56) (v := ?_) (a' := ?_) #[true, true, true, true, true, false, false, false, false, false, false, false, false] rfl rfl (any_of HT_.out (by kernel_rfl)) (fun _ _ _ h => h) (Or.inl ⟨by rfl, ?_⟩) ?_ ?_
      rotate_left
      · intro w'
        go_simp
        with_reducible rfl
      rotate_left
      · simp only [Act.put, List.setIfInBounds_toArray, List.set_cons_zero, List.set_cons_succ, i64_w, i32_w]
        rfl
      refine pure_ (i := 5) (N := some 57) (v := ?_) (a' := ?_) #[true, true, true, true, true, true, false, false, false, false, false, false, false] rfl rfl (any_of HT_.out (by kernel_rfl)) (fun _ _ _ h => h) (Or.inl ⟨by rfl, ?_⟩) ?_ ?_
      rotate_left
      · intro w'
        go_simp
        with_reducible rfl
      rotate_left
      · simp only [Act.put, List.setIfInBounds_toArray, List.set_cons_zero, List.set_cons_succ, i64_w, i32_w]
        rfl
      refine pure_ (i := 7) (N := some 59) (v := ?_) (a' := ?_) #[true, true, true, true, true, true, false, true, false, false, false, false, false] rfl rfl (any_of HT_.out (by kernel_rfl)) (fun _ _ _ h => h) (Or.inl ⟨by rfl, ?_⟩) ?_ ?_
      rotate_left
      · intro w'
        go_simp
        with_reducible rfl
      rotate_left
      · simp only [Act.put, List.setIfInBounds_toArray, List.set_cons_zero, List.set_cons_succ, i64_w, i32_w]
        rfl
      refine take_ (i := 6) (N := some 58) (v := ?_) (a' := ?_) #[true, true, true, true, true, true, true, true, false, false, false, false, false] rfl rfl (take_ofW HT_.out HW_.out (by kernel_rfl)) (fun _ _ _ h => h) (Or.inl ⟨by rfl, ?_⟩) hHeld ?_ ?_
      rotate_left
      · rintro w' ⟨s0, s1, s2, s3, s4, s5, s6, s7, s8, s9, s10, s11⟩
        go_simp
        with_reducible rfl
      rotate_left
      · simp only [Act.put, List.setIfInBounds_toArray, List.set_cons_zero, List.set_cons_succ, i64_w, i32_w]
        rfl
      refine take_ (i := 8) (N := some 60) (v := ?_) (a' := ?_) #[true, true, true, true, true, true, true, true, true, false, false, false, false] rfl rfl (take_ofW HT_.out HW_.out (by kernel_rfl)) (fun _ _ _ h => h) (Or.inl ⟨by rfl, ?_⟩) hHeld ?_ ?_
      rotate_left
      · rintro w' ⟨s0, s1, s2, s3, s4, s5, s6, s7, s8, s9, s10, s11⟩
        go_simp
        with_reducible rfl
      rotate_left
      · simp only [Act.put, List.setIfInBounds_toArray, List.set_cons_zero, List.set_cons_succ, i64_w, i32_w]
        rfl
      refine one_ (i := 9) (N := some 61) #[true, true, true, true, true, true, true, true, true, true, false, false, false] rfl rfl (one_of HT_.out (by kernel_rfl)) (by decide) (fun K hK => ?_)
      refine goes_ Try.func66 (by kernel_rfl) rfl #[.int .i64 a1_1, .int .i64 1, .int .i64 a0_2] (by rfl) rfl rfl (by (try simp only [List.map_toArray, List.map_cons, List.map_nil]); first | done | rfl | (simp only [List.length_drop, List.length_take]; rfl)) ?_
      with_reducible refine (spec_l1In.calls a1_1 1 a0_2 t123 _ A119.out).mono ?_
      rintro e w' ⟨rfl, ⟨nd, rfl⟩⟩
      refine ⟨_, rfl, ?_⟩
      refine hK.out _ _ ⟨(blk_cell BK118.out 0).trans rfl, (blk_cell BK118.out 1).trans rfl, (blk_cell BK118.out 2).trans rfl, (blk_cell BK118.out 3).trans rfl, (blk_cell BK118.out 4).trans rfl, (blk_cell BK115.out 0).trans rfl, (blk_cell BK115.out 1).trans rfl, (blk_cell BK115.out 2).trans rfl, (blk_cell BK115.out 3).trans rfl, (blk_cell BK115.out 4).trans rfl, (blk_cell BK116.out 0).trans rfl, (blk_cell BK116.out 1).trans rfl⟩ (fun hHeld => ?_)
      clear hK K
      refine norm_ (a' := ?_) ?_ ?_
      rotate_left
      · show Act.put _ (some 61) _ = _
        simp only [Act.put, List.setIfInBounds_toArray, List.set_cons_zero, List.set_cons_succ, i64_w, i32_w]
        rfl
      refine pure_ (i := 10) (N := some 62) (v := ?_) (a' := ?_) #[true, true, true, true, true, true, true, true, true, true, true, false, false] rfl rfl (any_of HT_.out (by kernel_rfl)) (fun _ _ _ h => h) (Or.inl ⟨by rfl, ?_⟩) ?_ ?_
      rotate_left
      · intro w'
        go_simp
        with_reducible rfl
      rotate_left
      · simp only [Act.put, List.setIfInBounds_toArray, List.set_cons_zero, List.set_cons_succ, i64_w, i32_w]
        rfl
      refine one_ (i := 11) (N := none) #[true, true, true, true, true, true, true, true, true, true, true, true, false] rfl rfl (one_of HT_.out (by kernel_rfl)) (by decide) (fun K hK => ?_)
      have hs136 : w135.cell? ⟨gb117, 0, none⟩ = some (.int .i64 0) := (blk_cell BK117.out 0).trans rfl
      have hfs136 := blk_frozen BK117.out 0
      have hns136_0 := NB115_117.out
      have hns136_1 := NB116_117.out
      have hns136_3 := NB118_117.out
      have hms136_0 := NB117_115.out
      have hms136_1 := NB117_116.out
      have hms136_3 := NB117_118.out
      have hs137 : w135.cell? ⟨gb117, 1, none⟩ = some (.int .i64 0) := (blk_cell BK117.out 1).trans rfl
      have hfs137 := blk_frozen BK117.out 1
      have hns137_0 := NB115_117.out
      have hns137_1 := NB116_117.out
      have hns137_3 := NB118_117.out
      have hms137_0 := NB117_115.out
      have hms137_1 := NB117_116.out
      have hms137_3 := NB117_118.out
      have hs138 : w135.cell? ⟨gb117, 2, none⟩ = some (.int .i64 0) := (blk_cell BK117.out 2).trans rfl
      have hfs138 := blk_frozen BK117.out 2
      have hns138_0 := NB115_117.out
      have hns138_1 := NB116_117.out
      have hns138_3 := NB118_117.out
      have hms138_0 := NB117_115.out
      have hms138_1 := NB117_116.out
      have hms138_3 := NB117_118.out
      have hs139 : w135.cell? ⟨gb117, 3, none⟩ = some (.int .i64 0) := (blk_cell BK117.out 3).trans rfl
      have hfs139 := blk_frozen BK117.out 3
      have hns139_0 := NB115_117.out
      have hns139_1 := NB116_117.out
      have hns139_3 := NB118_117.out
      have hms139_0 := NB117_115.out
      have hms139_1 := NB117_116.out
      have hms139_3 := NB117_118.out
      have hs140 : w135.cell? ⟨gb117, 4, none⟩ = some (.int .i64 0) := (blk_cell BK117.out 4).trans rfl
      have hfs140 := blk_frozen BK117.out 4
      have hns140_0 := NB115_117.out
      have hns140_1 := NB116_117.out
      have hns140_3 := NB118_117.out
      have hms140_0 := NB117_115.out
      have hms140_1 := NB117_116.out
      have hms140_3 := NB117_118.out
      refine skip_ (w1 := ?_) (by rfl) rfl ?_ ?_
      rotate_left
      · go_simp
        rfl
      refine hK.out _ _ ⟨((cell_far (p := ⟨gb117, _, none⟩) NB118_117.out _).trans (((cell_far (p := ⟨gb117, _, none⟩) NB118_117.out _).trans (((cell_far (p := ⟨gb117, _, none⟩) NB118_117.out _).trans (((cell_far (p := ⟨gb117, _, none⟩) NB118_117.out _).trans (((cell_far (p := ⟨gb117, _, none⟩) NB118_117.out _).trans (hHeld.1)))))))))), ((cell_far (p := ⟨gb117, _, none⟩) NB118_117.out _).trans (((cell_far (p := ⟨gb117, _, none⟩) NB118_117.out _).trans (((cell_far (p := ⟨gb117, _, none⟩) NB118_117.out _).trans (((cell_far (p := ⟨gb117, _, none⟩) NB118_117.out _).trans (((cell_far (p := ⟨gb117, _, none⟩) NB118_117.out _).trans (hHeld.2.1)))))))))), ((cell_far (p := ⟨gb117, _, none⟩) NB118_117.out _).trans (((cell_far (p := ⟨gb117, _, none⟩) NB118_117.out _).trans (((cell_far (p := ⟨gb117, _, none⟩) NB118_117.out _).trans (((cell_far (p := ⟨gb117, _, none⟩) NB118_117.out _).trans (((cell_far (p := ⟨gb117, _, none⟩) NB118_117.out _).trans (hHeld.2.2.1)))))))))), ((cell_far (p := ⟨gb117, _, none⟩) NB118_117.out _).trans (((cell_far (p := ⟨gb117, _, none⟩) NB118_117.out _).trans (((cell_far (p := ⟨gb117, _, none⟩) NB118_117.out _).trans (((cell_far (p := ⟨gb117, _, none⟩) NB118_117.out _).trans (((cell_far (p := ⟨gb117, _, none⟩) NB118_117.out _).trans (hHeld.2.2.2.1)))))))))), ((cell_far (p := ⟨gb117, _, none⟩) NB118_117.out _).trans (((cell_far (p := ⟨gb117, _, none⟩) NB118_117.out _).trans (((cell_far (p := ⟨gb117, _, none⟩) NB118_117.out _).trans (((cell_far (p := ⟨gb117, _, none⟩) NB118_117.out _).trans (((cell_far (p := ⟨gb117, _, none⟩) NB118_117.out _).trans (hHeld.2.2.2.2.1)))))))))), ((cell_far (p := ⟨gb117, _, none⟩) NB115_117.out _).trans (((cell_far (p := ⟨gb117, _, none⟩) NB115_117.out _).trans (((cell_far (p := ⟨gb117, _, none⟩) NB115_117.out _).trans (((cell_far (p := ⟨gb117, _, none⟩) NB115_117.out _).trans (((cell_far (p := ⟨gb117, _, none⟩) NB115_117.out _).trans (hHeld.2.2.2.2.2.1)))))))))), ((cell_far (p := ⟨gb117, _, none⟩) NB115_117.out _).trans (((cell_far (p := ⟨gb117, _, none⟩) NB115_117.out _).trans (((cell_far (p := ⟨gb117, _, none⟩) NB115_117.out _).trans (((cell_far (p := ⟨gb117, _, none⟩) NB115_117.out _).trans (((cell_far (p := ⟨gb117, _, none⟩) NB115_117.out _).trans (hHeld.2.2.2.2.2.2.1)))))))))), ((cell_far (p := ⟨gb117, _, none⟩) NB115_117.out _).trans (((cell_far (p := ⟨gb117, _, none⟩) NB115_117.out _).trans (((cell_far (p := ⟨gb117, _, none⟩) NB115_117.out _).trans (((cell_far (p := ⟨gb117, _, none⟩) NB115_117.out _).trans (((cell_far (p := ⟨gb117, _, none⟩) NB115_117.out _).trans (hHeld.2.2.2.2.2.2.2.1)))))))))), ((cell_far (p := ⟨gb117, _, none⟩) NB115_117.out _).trans (((cell_far (p := ⟨gb117, _, none⟩) NB115_117.out _).trans (((cell_far (p := ⟨gb117, _, none⟩) NB115_117.out _).trans (((cell_far (p := ⟨gb117, _, none⟩) NB115_117.out _).trans (((cell_far (p := ⟨gb117, _, none⟩) NB115_117.out _).trans (hHeld.2.2.2.2.2.2.2.2.1)))))))))), ((cell_far (p := ⟨gb117, _, none⟩) NB115_117.out _).trans (((cell_far (p := ⟨gb117, _, none⟩) NB115_117.out _).trans (((cell_far (p := ⟨gb117, _, none⟩) NB115_117.out _).trans (((cell_far (p := ⟨gb117, _, none⟩) NB115_117.out _).trans (((cell_far (p := ⟨gb117, _, none⟩) NB115_117.out _).trans (hHeld.2.2.2.2.2.2.2.2.2.1)))))))))), ((cell_far (p := ⟨gb117, _, none⟩) NB116_117.out _).trans (((cell_far (p := ⟨gb117, _, none⟩) NB116_117.out _).trans (((cell_far (p := ⟨gb117, _, none⟩) NB116_117.out _).trans (((cell_far (p := ⟨gb117, _, none⟩) NB116_117.out _).trans (((cell_far (p := ⟨gb117, _, none⟩) NB116_117.out _).trans (hHeld.2.2.2.2.2.2.2.2.2.2.1)))))))))), ((cell_far (p := ⟨gb117, _, none⟩) NB116_117.out _).trans (((cell_far (p := ⟨gb117, _, none⟩) NB116_117.out _).trans (((cell_far (p := ⟨gb117, _, none⟩) NB116_117.out _).trans (((cell_far (p := ⟨gb117, _, none⟩) NB116_117.out _).trans (((cell_far (p := ⟨gb117, _, none⟩) NB116_117.out _).trans (hHeld.2.2.2.2.2.2.2.2.2.2.2))))))))))⟩ (fun hHeld => ?_)
      clear hK K
      refine pure_ (i := 12) (N := some 5) (v := ?_) (a' := ?_) #[true, true, true, true, true, true, true, true, true, true, true, true, true] rfl rfl (any_of HT_.out (by kernel_rfl)) (fun _ _ _ h => h) (Or.inl ⟨by rfl, ?_⟩) ?_ ?_
      rotate_left
      · intro w'
        go_simp
        with_reducible rfl
      rotate_left
      · simp only [Act.put, List.setIfInBounds_toArray, List.set_cons_zero, List.set_cons_succ, i64_w, i32_w]
        rfl
      refine done_ (done_of HT_.out (by kernel_rfl)) ?_
      try go_wp2
      refine bodyPost_ret (results_ct rfl _ _ gb117 25 #[.int .i64 a0_0, .int .i64 a0_1, .int .i64 (wrap64 (a0_2 - a1_1)), .int .i64 a0_3, .int .i64 a0_4] (0, 0) _ rfl (by (with_reducible repeat (first | refine blk_drewN ?_ _ | refine blk_drew ?_ | refine blk_alloc ?_ _)); refine blk_put (cs := #[.int .i64 a0_0, .int .i64 a0_1, .int .i64 (wrap64 (a0_2 - a1_1)), .int .i64 a0_3, .int .i64 0]) ?_ 4 _ rfl; (with_reducible repeat (first | refine blk_drewN ?_ _ | refine blk_drew ?_ | refine blk_alloc ?_ _)); refine blk_put (cs := #[.int .i64 a0_0, .int .i64 a0_1, .int .i64 (wrap64 (a0_2 - a1_1)), .int .i64 0, .int .i64 0]) ?_ 3 _ rfl; (with_reducible repeat (first | refine blk_drewN ?_ _ | refine blk_drew ?_ | refine blk_alloc ?_ _)); refine blk_put (cs := #[.int .i64 a0_0, .int .i64 a0_1, .int .i64 0, .int .i64 0, .int .i64 0]) ?_ 2 _ rfl; (with_reducible repeat (first | refine blk_drewN ?_ _ | refine blk_drew ?_ | refine blk_alloc ?_ _)); refine blk_put (cs := #[.int .i64 a0_0, .int .i64 0, .int .i64 0, .int .i64 0, .int .i64 0]) ?_ 1 _ rfl; (with_reducible repeat (first | refine blk_drewN ?_ _ | refine blk_drew ?_ | refine blk_alloc ?_ _)); refine blk_put (cs := #[.int .i64 0, .int .i64 0, .int .i64 0, .int .i64 0, .int .i64 0]) ?_ 0 _ rfl; (with_reducible repeat (first | refine blk_drewN ?_ _ | refine blk_drew ?_ | refine blk_alloc ?_ _)); exact BK117.out) Try.underlying25 rfl (by kernel_rfl)) rfl ?_
      exact ⟨by first | rfl | (simp [errW_none, errW_some] <;> rfl) | (simp [*, errW_none, errW_some] <;> rfl), by repeat (first | (with_reducible first | exact HB.out | apply below_alloc | apply pw_below_drewN | apply below_drew1 | refine below_set ?_ GE115.out | refine below_set ?_ GE116.out | refine below_set ?_ GE117.out | refine below_set ?_ GE118.out) | exact HB.out)⟩
    · replace c118 := Bool.eq_false_iff.mpr c118
      subst c118
      have H1 : (some (a0_0, a0_1, wrap64 (a0_2 - a1_1), a0_3, a0_4, false)) = some (r1, r2, r3, r4, r5, r6) := by rw [if_neg (show ¬ (false = true) by decide)] at H; exact H
      clear H
      have H := H1
      clear H1
      simp only [Option.some.injEq, Prod.mk.injEq] at H
      obtain ⟨rfl, rfl, rfl, rfl, rfl, rfl⟩ := H
      (try clear q1)
      (try clear q2)
      (try clear q3)
      (try clear q4)
      (try clear q5)
      (try clear q6)
      go_enter Try.func52, Try.ntmps52
      go_wp2
      refine wp_abs (fun W' => (W'.heap[w.heap.size]? = some (.cells #[.int .i64 a0_0, .int .i64 a0_1, .int .i64 a0_2, .int .i64 a0_3, .int .i64 a0_4] 25 (0, 0))) ∧ (W'.heap[w.heap.size + 1]? = some (.cells #[.int .i64 a1_0, .int .i64 a1_1] 49 (0, 0))) ∧ (W'.heap[w.heap.size + 1 + 1]? = some (.cells #[.int .i64 0, .int .i64 0, .int .i64 0, .int .i64 0, .int .i64 0] 25 (0, 0))) ∧ (W'.heap[w.heap.size + 1 + 1 + 1]? = some (.cells #[.int .i64 a0_0, .int .i64 a0_1, .int .i64 (wrap64 (a0_2 - a1_1)), .int .i64 a0_3, .int .i64 a0_4] 25 (0, 0))) ∧ (Below w.heap.size w W')) (boxes4 w _ _ _ _) (fun w155 hW => ?_)
      obtain ⟨m0_, m1_, m2_, m3_, m4_⟩ := hW
      generalize e3_ : w.heap.size + 1 + 1 + 1 = gb118 at m3_ ⊢
      generalize e2_ : w.heap.size + 1 + 1 = gb117 at m2_ ⊢
      generalize e1_ : w.heap.size + 1 = gb116 at m1_ ⊢
      generalize e0_ : w.heap.size = gb115 at m0_ ⊢
      have BK115 := Aside0.mk m0_
      have BK116 := Aside0.mk m1_
      have BK117 := Aside0.mk m2_
      have BK118 := Aside0.mk m3_
      have HB := Aside0.mk m4_
      have GW115 := Aside0.mk (show w.heap.size ≤ gb115 by omega)
      have GE115 := Aside0.mk (show w.heap.size ≤ gb115 by omega)
      have NB115_116 := Aside0.mk (show gb115 ≠ gb116 by omega)
      have NB115_117 := Aside0.mk (show gb115 ≠ gb117 by omega)
      have NB115_118 := Aside0.mk (show gb115 ≠ gb118 by omega)
      have GW116 := Aside0.mk (show w.heap.size ≤ gb116 by omega)
      have GE116 := Aside0.mk (show w.heap.size ≤ gb116 by omega)
      have NB116_115 := Aside0.mk (show gb116 ≠ gb115 by omega)
      have NB116_117 := Aside0.mk (show gb116 ≠ gb117 by omega)
      have NB116_118 := Aside0.mk (show gb116 ≠ gb118 by omega)
      have GW117 := Aside0.mk (show w.heap.size ≤ gb117 by omega)
      have GE117 := Aside0.mk (show w.heap.size ≤ gb117 by omega)
      have NB117_115 := Aside0.mk (show gb117 ≠ gb115 by omega)
      have NB117_116 := Aside0.mk (show gb117 ≠ gb116 by omega)
      have NB117_118 := Aside0.mk (show gb117 ≠ gb118 by omega)
      have GW118 := Aside0.mk (show w.heap.size ≤ gb118 by omega)
      have GE118 := Aside0.mk (show w.heap.size ≤ gb118 by omega)
      have NB118_115 := Aside0.mk (show gb118 ≠ gb115 by omega)
      have NB118_116 := Aside0.mk (show gb118 ≠ gb116 by omega)
      have NB118_117 := Aside0.mk (show gb118 ≠ gb117 by omega)
      clear e0_ e1_ e2_ e3_ m0_ m1_ m2_ m3_ m4_
      have n0_ := Aside0.mk (blk_drew BK115.out)
      have n1_ := Aside0.mk (blk_drew BK116.out)
      have n2_ := Aside0.mk (blk_drew BK117.out)
      have n3_ := Aside0.mk (blk_drew BK118.out)
      have n4_ := Aside0.mk (below_drew1 HB.out)
      clear BK115
      clear BK116
      clear BK117
      clear BK118
      clear HB
      have BK115 := n0_
      have BK116 := n1_
      have BK117 := n2_
      have BK118 := n3_
      have HB := n4_
      clear n0_ n1_ n2_ n3_ n4_
      refine start_ (n := 13) (S := fun w' => w'.cell? ⟨gb118, 0, none⟩ = some (.int .i64 a0_0) ∧ w'.cell? ⟨gb118, 1, none⟩ = some (.int .i64 a0_1) ∧ w'.cell? ⟨gb118, 2, none⟩ = some (.int .i64 (wrap64 (a0_2 - a1_1))) ∧ w'.cell? ⟨gb118, 3, none⟩ = some (.int .i64 a0_3) ∧ w'.cell? ⟨gb118, 4, none⟩ = some (.int .i64 a0_4) ∧ w'.cell? ⟨gb115, 0, none⟩ = some (.int .i64 a0_0) ∧ w'.cell? ⟨gb115, 1, none⟩ = some (.int .i64 a0_1) ∧ w'.cell? ⟨gb115, 2, none⟩ = some (.int .i64 a0_2) ∧ w'.cell? ⟨gb115, 3, none⟩ = some (.int .i64 a0_3) ∧ w'.cell? ⟨gb115, 4, none⟩ = some (.int .i64 a0_4)) (ds := []) #[false, false, false, false, false, false, false, false, false, false, false, false, false] (by kernel_rfl) rfl rfl ⟨(blk_cell BK118.out 0).trans rfl, (blk_cell BK118.out 1).trans rfl, (blk_cell BK118.out 2).trans rfl, (blk_cell BK118.out 3).trans rfl, (blk_cell BK118.out 4).trans rfl, (blk_cell BK115.out 0).trans rfl, (blk_cell BK115.out 1).trans rfl, (blk_cell BK115.out 2).trans rfl, (blk_cell BK115.out 3).trans rfl, (blk_cell BK115.out 4).trans rfl⟩ (fun hHeld => ?_); refine with_tabW spec_l21Make.tab11 spec_l21Make.bits11 (fun HT_ HW_ => ?_)
      generalize w155.drew = w156 at BK115 BK116 BK117 BK118 HB hHeld ⊢
      refine pure_ (i := 1) (N := some 53) (v := ?_) (a' := ?_) #[false, true, false, false, false, false, false, false, false, false, false, false, false] rfl rfl (any_of HT_.out (by kernel_rfl)) (fun _ _ _ h => h) (Or.inl ⟨by rfl, ?_⟩) ?_ ?_
      rotate_left
      · intro w'
        go_simp
        with_reducible rfl
      rotate_left
      · simp only [Act.put, List.setIfInBounds_toArray, List.set_cons_zero, List.set_cons_succ, i64_w, i32_w]
        rfl
      refine take_ (i := 0) (N := some 52) (v := ?_) (a' := ?_) #[true, true, false, false, false, false, false, false, false, false, false, false, false] rfl rfl (take_ofW HT_.out HW_.out (by kernel_rfl)) (fun _ _ _ h => h) (Or.inl ⟨by rfl, ?_⟩) hHeld ?_ ?_
      rotate_left
      · rintro w' ⟨s0, s1, s2, s3, s4, s5, s6, s7, s8, s9⟩
        go_simp
        with_reducible rfl
      rotate_left
      · simp only [Act.put, List.setIfInBounds_toArray, List.set_cons_zero, List.set_cons_succ, i64_w, i32_w]
        rfl
      refine take_ (i := 2) (N := some 54) (v := ?_) (a' := ?_) #[true, true, true, false, false, false, false, false, false, false, false, false, false] rfl rfl (take_ofW HT_.out HW_.out (by kernel_rfl)) (fun _ _ _ h => h) (Or.inl ⟨by rfl, ?_⟩) hHeld ?_ ?_
      rotate_left
      · rintro w' ⟨s0, s1, s2, s3, s4, s5, s6, s7, s8, s9⟩
        go_simp
        with_reducible rfl
      rotate_left
      · simp only [Act.put, List.setIfInBounds_toArray, List.set_cons_zero, List.set_cons_succ, i64_w, i32_w]
        rfl
      refine one_ (i := 3) (N := some 55) #[true, true, true, true, false, false, false, false, false, false, false, false, false] rfl rfl (one_of HT_.out (by kernel_rfl)) (by decide) (fun K hK => ?_)
      refine goes_ Try.func48 (by kernel_rfl) rfl #[.int .i64 a0_0] (by rfl) rfl rfl (by (try simp only [List.map_toArray, List.map_cons, List.map_nil]); first | done | rfl | (simp only [List.length_drop, List.length_take]; rfl)) ?_
      with_reducible refine (spec_l21In.calls a0_0 false _ A117.out).mono ?_
      rintro e w' ⟨rfl, ⟨nd, rfl⟩⟩
      refine ⟨_, rfl, ?_⟩
      refine hK.out _ _ ⟨(blk_cell BK118.out 0).trans rfl, (blk_cell BK118.out 1).trans rfl, (blk_cell BK118.out 2).trans rfl, (blk_cell BK118.out 3).trans rfl, (blk_cell BK118.out 4).trans rfl, (blk_cell BK115.out 0).trans rfl, (blk_cell BK115.out 1).trans rfl, (blk_cell BK115.out 2).trans rfl, (blk_cell BK115.out 3).trans rfl, (blk_cell BK115.out 4).trans rfl⟩ (fun hHeld => ?_)
      clear hK K
      refine norm_ (a' := ?_) ?_ ?_
      rotate_left
      · show Act.put _ (some 55) _ = _
        simp only [Act.put, List.setIfInBounds_toArray, List.set_cons_zero, List.set_cons_succ, i64_w, i32_w]
        rfl
      refine pure_ (i := 4) (N := some 56) (v := ?_) (a' := ?_) #[true, true, true, true, true, false, false, false, false, false, false, false, false] rfl rfl (any_of HT_.out (by kernel_rfl)) (fun _ _ _ h => h) (Or.inl ⟨by rfl, ?_⟩) ?_ ?_
      rotate_left
      · intro w'
        go_simp
        with_reducible rfl
      rotate_left
      · simp only [Act.put, List.setIfInBounds_toArray, List.set_cons_zero, List.set_cons_succ, i64_w, i32_w]
        rfl
      refine pure_ (i := 5) (N := some 57) (v := undef) (a' := ?_) #[true, true, true, true, true, true, false, false, false, false, false, false, false] rfl rfl (any_of HT_.out (by kernel_rfl)) (fun _ _ _ h => h) (Or.inr ⟨by rfl, rfl⟩) ?_ ?_
      rotate_left
      · simp only [Act.put, List.setIfInBounds_toArray, List.set_cons_zero, List.set_cons_succ, i64_w, i32_w]
        rfl
      refine pure_ (i := 6) (N := some 58) (v := undef) (a' := ?_) #[true, true, true, true, true, true, true, false, false, false, false, false, false] rfl rfl (any_of HT_.out (by kernel_rfl)) (fun _ _ _ h => h) (Or.inr ⟨by rfl, rfl⟩) ?_ ?_
      rotate_left
      · simp only [Act.put, List.setIfInBounds_toArray, List.set_cons_zero, List.set_cons_succ, i64_w, i32_w]
        rfl
      refine pure_ (i := 7) (N := some 59) (v := undef) (a' := ?_) #[true, true, true, true, true, true, true, true, false, false, false, false, false] rfl rfl (any_of HT_.out (by kernel_rfl)) (fun _ _ _ h => h) (Or.inr ⟨by rfl, rfl⟩) ?_ ?_
      rotate_left
      · simp only [Act.put, List.setIfInBounds_toArray, List.set_cons_zero, List.set_cons_succ, i64_w, i32_w]
        rfl
      refine pure_ (i := 8) (N := some 60) (v := undef) (a' := ?_) #[true, true, true, true, true, true, true, true, true, false, false, false, false] rfl rfl (any_of HT_.out (by kernel_rfl)) (fun _ _ _ h => h) (Or.inr ⟨by rfl, rfl⟩) ?_ ?_
      rotate_left
      · simp only [Act.put, List.setIfInBounds_toArray, List.set_cons_zero, List.set_cons_succ, i64_w, i32_w]
        rfl
      refine pure_ (i := 9) (N := some 61) (v := undef) (a' := ?_) #[true, true, true, true, true, true, true, true, true, true, false, false, false] rfl rfl (any_of HT_.out (by kernel_rfl)) (fun _ _ _ h => h) (Or.inr ⟨by rfl, rfl⟩) ?_ ?_
      rotate_left
      · simp only [Act.put, List.setIfInBounds_toArray, List.set_cons_zero, List.set_cons_succ, i64_w, i32_w]
        rfl
      refine pure_ (i := 10) (N := some 62) (v := ?_) (a' := ?_) #[true, true, true, true, true, true, true, true, true, true, true, false, false] rfl rfl (any_of HT_.out (by kernel_rfl)) (fun _ _ _ h => h) (Or.inl ⟨by rfl, ?_⟩) ?_ ?_
      rotate_left
      · intro w'
        go_simp
        with_reducible rfl
      rotate_left
      · simp only [Act.put, List.setIfInBounds_toArray, List.set_cons_zero, List.set_cons_succ, i64_w, i32_w]
        rfl
      refine one_ (i := 11) (N := none) #[true, true, true, true, true, true, true, true, true, true, true, true, false] rfl rfl (one_of HT_.out (by kernel_rfl)) (by decide) (fun K hK => ?_)
      have hs157 : w156.cell? ⟨gb117, 0, none⟩ = some (.int .i64 0) := (blk_cell BK117.out 0).trans rfl
      have hfs157 := blk_frozen BK117.out 0
      have hns157_0 := NB115_117.out
      have hns157_1 := NB116_117.out
      have hns157_3 := NB118_117.out
      have hms157_0 := NB117_115.out
      have hms157_1 := NB117_116.out
      have hms157_3 := NB117_118.out
      have hs158 : w156.cell? ⟨gb117, 1, none⟩ = some (.int .i64 0) := (blk_cell BK117.out 1).trans rfl
      have hfs158 := blk_frozen BK117.out 1
      have hns158_0 := NB115_117.out
      have hns158_1 := NB116_117.out
      have hns158_3 := NB118_117.out
      have hms158_0 := NB117_115.out
      have hms158_1 := NB117_116.out
      have hms158_3 := NB117_118.out
      have hs159 : w156.cell? ⟨gb117, 2, none⟩ = some (.int .i64 0) := (blk_cell BK117.out 2).trans rfl
      have hfs159 := blk_frozen BK117.out 2
      have hns159_0 := NB115_117.out
      have hns159_1 := NB116_117.out
      have hns159_3 := NB118_117.out
      have hms159_0 := NB117_115.out
      have hms159_1 := NB117_116.out
      have hms159_3 := NB117_118.out
      have hs160 : w156.cell? ⟨gb117, 3, none⟩ = some (.int .i64 0) := (blk_cell BK117.out 3).trans rfl
      have hfs160 := blk_frozen BK117.out 3
      have hns160_0 := NB115_117.out
      have hns160_1 := NB116_117.out
      have hns160_3 := NB118_117.out
      have hms160_0 := NB117_115.out
      have hms160_1 := NB117_116.out
      have hms160_3 := NB117_118.out
      have hs161 : w156.cell? ⟨gb117, 4, none⟩ = some (.int .i64 0) := (blk_cell BK117.out 4).trans rfl
      have hfs161 := blk_frozen BK117.out 4
      have hns161_0 := NB115_117.out
      have hns161_1 := NB116_117.out
      have hns161_3 := NB118_117.out
      have hms161_0 := NB117_115.out
      have hms161_1 := NB117_116.out
      have hms161_3 := NB117_118.out
      refine skip_ (w1 := ?_) (by rfl) rfl ?_ ?_
      rotate_left
      · go_simp
        rfl
      refine hK.out _ _ ⟨((cell_far (p := ⟨gb117, _, none⟩) NB118_117.out _).trans (((cell_far (p := ⟨gb117, _, none⟩) NB118_117.out _).trans (((cell_far (p := ⟨gb117, _, none⟩) NB118_117.out _).trans (((cell_far (p := ⟨gb117, _, none⟩) NB118_117.out _).trans (((cell_far (p := ⟨gb117, _, none⟩) NB118_117.out _).trans (hHeld.1)))))))))), ((cell_far (p := ⟨gb117, _, none⟩) NB118_117.out _).trans (((cell_far (p := ⟨gb117, _, none⟩) NB118_117.out _).trans (((cell_far (p := ⟨gb117, _, none⟩) NB118_117.out _).trans (((cell_far (p := ⟨gb117, _, none⟩) NB118_117.out _).trans (((cell_far (p := ⟨gb117, _, none⟩) NB118_117.out _).trans (hHeld.2.1)))))))))), ((cell_far (p := ⟨gb117, _, none⟩) NB118_117.out _).trans (((cell_far (p := ⟨gb117, _, none⟩) NB118_117.out _).trans (((cell_far (p := ⟨gb117, _, none⟩) NB118_117.out _).trans (((cell_far (p := ⟨gb117, _, none⟩) NB118_117.out _).trans (((cell_far (p := ⟨gb117, _, none⟩) NB118_117.out _).trans (hHeld.2.2.1)))))))))), ((cell_far (p := ⟨gb117, _, none⟩) NB118_117.out _).trans (((cell_far (p := ⟨gb117, _, none⟩) NB118_117.out _).trans (((cell_far (p := ⟨gb117, _, none⟩) NB118_117.out _).trans (((cell_far (p := ⟨gb117, _, none⟩) NB118_117.out _).trans (((cell_far (p := ⟨gb117, _, none⟩) NB118_117.out _).trans (hHeld.2.2.2.1)))))))))), ((cell_far (p := ⟨gb117, _, none⟩) NB118_117.out _).trans (((cell_far (p := ⟨gb117, _, none⟩) NB118_117.out _).trans (((cell_far (p := ⟨gb117, _, none⟩) NB118_117.out _).trans (((cell_far (p := ⟨gb117, _, none⟩) NB118_117.out _).trans (((cell_far (p := ⟨gb117, _, none⟩) NB118_117.out _).trans (hHeld.2.2.2.2.1)))))))))), ((cell_far (p := ⟨gb117, _, none⟩) NB115_117.out _).trans (((cell_far (p := ⟨gb117, _, none⟩) NB115_117.out _).trans (((cell_far (p := ⟨gb117, _, none⟩) NB115_117.out _).trans (((cell_far (p := ⟨gb117, _, none⟩) NB115_117.out _).trans (((cell_far (p := ⟨gb117, _, none⟩) NB115_117.out _).trans (hHeld.2.2.2.2.2.1)))))))))), ((cell_far (p := ⟨gb117, _, none⟩) NB115_117.out _).trans (((cell_far (p := ⟨gb117, _, none⟩) NB115_117.out _).trans (((cell_far (p := ⟨gb117, _, none⟩) NB115_117.out _).trans (((cell_far (p := ⟨gb117, _, none⟩) NB115_117.out _).trans (((cell_far (p := ⟨gb117, _, none⟩) NB115_117.out _).trans (hHeld.2.2.2.2.2.2.1)))))))))), ((cell_far (p := ⟨gb117, _, none⟩) NB115_117.out _).trans (((cell_far (p := ⟨gb117, _, none⟩) NB115_117.out _).trans (((cell_far (p := ⟨gb117, _, none⟩) NB115_117.out _).trans (((cell_far (p := ⟨gb117, _, none⟩) NB115_117.out _).trans (((cell_far (p := ⟨gb117, _, none⟩) NB115_117.out _).trans (hHeld.2.2.2.2.2.2.2.1)))))))))), ((cell_far (p := ⟨gb117, _, none⟩) NB115_117.out _).trans (((cell_far (p := ⟨gb117, _, none⟩) NB115_117.out _).trans (((cell_far (p := ⟨gb117, _, none⟩) NB115_117.out _).trans (((cell_far (p := ⟨gb117, _, none⟩) NB115_117.out _).trans (((cell_far (p := ⟨gb117, _, none⟩) NB115_117.out _).trans (hHeld.2.2.2.2.2.2.2.2.1)))))))))), ((cell_far (p := ⟨gb117, _, none⟩) NB115_117.out _).trans (((cell_far (p := ⟨gb117, _, none⟩) NB115_117.out _).trans (((cell_far (p := ⟨gb117, _, none⟩) NB115_117.out _).trans (((cell_far (p := ⟨gb117, _, none⟩) NB115_117.out _).trans (((cell_far (p := ⟨gb117, _, none⟩) NB115_117.out _).trans (hHeld.2.2.2.2.2.2.2.2.2))))))))))⟩ (fun hHeld => ?_)
      clear hK K
      refine pure_ (i := 12) (N := some 5) (v := ?_) (a' := ?_) #[true, true, true, true, true, true, true, true, true, true, true, true, true] rfl rfl (any_of HT_.out (by kernel_rfl)) (fun _ _ _ h => h) (Or.inl ⟨by rfl, ?_⟩) ?_ ?_
      rotate_left
      · intro w'
        go_simp
        with_reducible rfl
      rotate_left
      · simp only [Act.put, List.setIfInBounds_toArray, List.set_cons_zero, List.set_cons_succ, i64_w, i32_w]
        rfl
      refine done_ (done_of HT_.out (by kernel_rfl)) ?_
      try go_wp2
      refine bodyPost_ret (results_ct rfl _ _ gb117 25 #[.int .i64 a0_0, .int .i64 a0_1, .int .i64 (wrap64 (a0_2 - a1_1)), .int .i64 a0_3, .int .i64 a0_4] (0, 0) _ rfl (by (with_reducible repeat (first | refine blk_drewN ?_ _ | refine blk_drew ?_ | refine blk_alloc ?_ _)); refine blk_put (cs := #[.int .i64 a0_0, .int .i64 a0_1, .int .i64 (wrap64 (a0_2 - a1_1)), .int .i64 a0_3, .int .i64 0]) ?_ 4 _ rfl; (with_reducible repeat (first | refine blk_drewN ?_ _ | refine blk_drew ?_ | refine blk_alloc ?_ _)); refine blk_put (cs := #[.int .i64 a0_0, .int .i64 a0_1, .int .i64 (wrap64 (a0_2 - a1_1)), .int .i64 0, .int .i64 0]) ?_ 3 _ rfl; (with_reducible repeat (first | refine blk_drewN ?_ _ | refine blk_drew ?_ | refine blk_alloc ?_ _)); refine blk_put (cs := #[.int .i64 a0_0, .int .i64 a0_1, .int .i64 0, .int .i64 0, .int .i64 0]) ?_ 2 _ rfl; (with_reducible repeat (first | refine blk_drewN ?_ _ | refine blk_drew ?_ | refine blk_alloc ?_ _)); refine blk_put (cs := #[.int .i64 a0_0, .int .i64 0, .int .i64 0, .int .i64 0, .int .i64 0]) ?_ 1 _ rfl; (with_reducible repeat (first | refine blk_drewN ?_ _ | refine blk_drew ?_ | refine blk_alloc ?_ _)); refine blk_put (cs := #[.int .i64 0, .int .i64 0, .int .i64 0, .int .i64 0, .int .i64 0]) ?_ 0 _ rfl; (with_reducible repeat (first | refine blk_drewN ?_ _ | refine blk_drew ?_ | refine blk_alloc ?_ _)); exact BK117.out) Try.underlying25 rfl (by kernel_rfl)) rfl ?_
      exact ⟨by first | rfl | (simp [errW_none, errW_some] <;> rfl) | (simp [*, errW_none, errW_some] <;> rfl), by repeat (first | (with_reducible first | exact HB.out | apply below_alloc | apply pw_below_drewN | apply below_drew1 | refine below_set ?_ GE115.out | refine below_set ?_ GE116.out | refine below_set ?_ GE117.out | refine below_set ?_ GE118.out) | exact HB.out)⟩

end Go.Proofs.Ytmeaacbnjpgepaa.QFnExactRunTrip
