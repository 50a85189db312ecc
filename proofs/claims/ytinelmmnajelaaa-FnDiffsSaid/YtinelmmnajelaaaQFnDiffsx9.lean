/- Contracts of Go functions that FnDiffs reaches: the call computes what the plain function says. No condition. -/
import Derived.Test.YtinelmmnajelaaaQFnDiffsx0
import Derived.Test.YtinelmmnajelaaaQFnDiffsx1
import Derived.Test.YtinelmmnajelaaaQFnDiffsx8
namespace Go.Proofs.Ytinelmmnajelaaa.QFnDiffs
open Go.RowKit Go.Proofs.YtinelmmnajelaaaW.PrintWords Go.Proofs.YtinelmmnajelaaaW.PrintLast Go.Proofs.YtinelmmnajelaaaW.PrintMore
attribute [local go_sem] max2_int min2_int max_two min_two max_three min_three max_four min_four   -- for this text's walks alone
set_option linter.unusedVariables false
set_option linter.unusedSimpArgs false

attribute [local go_sem high] eqA26
/-! ### impl_apply: function 67 -/
mutual
def impl_apply.j0 : Nat → List (S26) → Bool → Int → Int → Int → Int → Int → Int → Int → Int → Int → Int → Int → Int → Option ((List (S26)) × Bool)
 | 0, _, _, _, _, _, _, _, _, _, _, _, _, _, _ => none
 | k + 1, x0, x22, x169000, x169001, x169002, x169003, x169004, x169005, x169006, x169007, x169008, x169009, x169010, x169011 => if x22 = true then (some (([] : List (S26)), false)) else ((impl_Leg_91.f x0).bind fun t170 => ((impl_Leg_90.f t170 x169001 (([(⟨x169007, x169008, x169009, x169010, x169011⟩ : S26)] : List (S26)))).bind fun t176 => (some (t176, true))))
def impl_apply.j1 : Nat → List (S26) → Bool → Int → Int → Int → Int → Int → Int → Int → Int → Int → Int → Int → Int → Option ((List (S26)) × Bool)
 | 0, _, _, _, _, _, _, _, _, _, _, _, _, _, _ => none
 | k + 1, x0, x45, x169000, x169001, x169002, x169003, x169004, x169005, x169006, x169007, x169008, x169009, x169010, x169011 => if x45 = true then (some (([] : List (S26)), false)) else (if x169000 = 2 then ((impl_leaving.f x0 x169001).bind fun t180 => (some (t180, true))) else ((impl_Leg_91.f x0).bind fun t183 => (if 0 ≤ x169001 then (if x169001 < (t183.length : Int) then (some ((t183.set (x169001 : Int).toNat (⟨x169007, x169008, x169009, x169010, x169011⟩ : S26)), true)) else (none)) else (none))))
end
def impl_apply.f (k : Nat) (l0 : List (S26)) (a1_0 a1_1 a1_2 a1_3 a1_4 a1_5 a1_6 a1_7 a1_8 a1_9 a1_10 a1_11 : Int) : Option ((List (S26)) × Bool) := (impl_isEdit.f a1_0 a1_1 a1_2 a1_3 a1_4 a1_5 a1_6 a1_7 a1_8 a1_9 a1_10 a1_11).bind fun t169 => (if t169 = true then (if a1_0 = 1 then (if a1_1 > (l0.length : Int) then (impl_apply.j0 k l0 true a1_0 a1_1 a1_2 a1_3 a1_4 a1_5 a1_6 a1_7 a1_8 a1_9 a1_10 a1_11) else (impl_apply.j0 k l0 ((l0.length : Int) == 12) a1_0 a1_1 a1_2 a1_3 a1_4 a1_5 a1_6 a1_7 a1_8 a1_9 a1_10 a1_11)) else (if a1_1 ≥ (l0.length : Int) then (impl_apply.j1 k l0 true a1_0 a1_1 a1_2 a1_3 a1_4 a1_5 a1_6 a1_7 a1_8 a1_9 a1_10 a1_11) else (if 0 ≤ a1_1 then (if a1_1 < (l0.length : Int) then (impl_apply.j1 k l0 (!(((rd_T26 l0 a1_1).f0) == a1_2) || (!(((rd_T26 l0 a1_1).f1) == a1_3) || (!(((rd_T26 l0 a1_1).f2) == a1_4) || (!(((rd_T26 l0 a1_1).f3) == a1_5) || (!(((rd_T26 l0 a1_1).f4) == a1_6)))))) a1_0 a1_1 a1_2 a1_3 a1_4 a1_5 a1_6 a1_7 a1_8 a1_9 a1_10 a1_11) else (none)) else (none)))) else (some (([] : List (S26)), false)))
theorem impl_apply.mono_l : ∀ k, (∀ y0 y1 y2 y3 y4 y5 y6 y7 y8 y9 y10 y11 y12 y13, LeO (impl_apply.j0 k y0 y1 y2 y3 y4 y5 y6 y7 y8 y9 y10 y11 y12 y13) (impl_apply.j0 (k + 1) y0 y1 y2 y3 y4 y5 y6 y7 y8 y9 y10 y11 y12 y13)) ∧ (∀ y0 y1 y2 y3 y4 y5 y6 y7 y8 y9 y10 y11 y12 y13, LeO (impl_apply.j1 k y0 y1 y2 y3 y4 y5 y6 y7 y8 y9 y10 y11 y12 y13) (impl_apply.j1 (k + 1) y0 y1 y2 y3 y4 y5 y6 y7 y8 y9 y10 y11 y12 y13))
 | 0 => ⟨fun _ _ _ _ _ _ _ _ _ _ _ _ _ _ r h => by simp [impl_apply.j0] at h, fun _ _ _ _ _ _ _ _ _ _ _ _ _ _ r h => by simp [impl_apply.j1] at h⟩
 | k + 1 => by
  obtain ⟨ih0, ih1⟩ := impl_apply.mono_l k
  refine ⟨?_, ?_⟩
  ·intro y0 y1 y2 y3 y4 y5 y6 y7 y8 y9 y10 y11 y12 y13
   unfold impl_apply.j0
   repeat' with_reducible first | apply ih0 | apply ih1 | exact LeO.refl _ | exact LeO.none _ | refine LeO.ite ?_ ?_ | refine LeO.bind ?_ (fun _ => ?_)
  ·intro y0 y1 y2 y3 y4 y5 y6 y7 y8 y9 y10 y11 y12 y13
   unfold impl_apply.j1
   repeat' with_reducible first | apply ih0 | apply ih1 | exact LeO.refl _ | exact LeO.none _ | refine LeO.ite ?_ ?_ | refine LeO.bind ?_ (fun _ => ?_)
theorem impl_apply.mono : ∀ a0 a1 a2 a3 a4 a5 a6 a7 a8 a9 a10 a11 a12 k, LeO (impl_apply.f k a0 a1 a2 a3 a4 a5 a6 a7 a8 a9 a10 a11 a12) (impl_apply.f (k + 1) a0 a1 a2 a3 a4 a5 a6 a7 a8 a9 a10 a11 a12) := by
 intro a0 a1 a2 a3 a4 a5 a6 a7 a8 a9 a10 a11 a12 k
 obtain ⟨ih0, ih1⟩ := impl_apply.mono_l k
 unfold impl_apply.f
 repeat' with_reducible first | apply ih0 | apply ih1 | exact LeO.refl _ | exact LeO.none _ | refine LeO.ite ?_ ?_ | refine LeO.bind ?_ (fun _ => ?_)
def impl_apply.T6 : Bool × List (List Nat × List Nat) := (true, [([], []), ([0], [0]), ([], []), ([2], [2]), ([], []), ([4], [4]), ([5], [5]), ([1, 3, 6, 1], [1, 3, 6]), ([7, 7, 0, 1, 2, 3, 4, 5, 6, 7], [7]), ([8, 0, 1, 2, 3, 4, 5, 6, 7, 8], [])])
def impl_apply.B6 : List Nat := [0, 1, 0, 4, 0, 16, 48, 127, 255, 511]
theorem impl_apply.tab6 : rtab .any (opsOf Try.f67 6) = impl_apply.T6 := by kernel_rfl
theorem impl_apply.bits6 : waitsOk impl_apply.T6.2 impl_apply.B6 = true := by kernel_rfl
def impl_apply.T7 : Bool × List (List Nat × List Nat) := (true, [([], []), ([0], [0]), ([], []), ([2], [2]), ([1, 3], [1, 3]), ([4], [4]), ([5], [5]), ([5], [5]), ([7, 5], [5, 7]), ([6, 8, 5], [5, 6, 8]), ([9, 5], [5, 9]), ([5], [5]), ([11, 5], [5, 11]), ([10, 12, 5], [5, 10, 12]), ([5, 13], [5, 13])])
def impl_apply.B7 : List Nat := [0, 1, 0, 4, 15, 31, 63, 63, 191, 511, 1023, 63, 2111, 8191, 16383]
theorem impl_apply.tab7 : rtab .any (opsOf Try.f67 7) = impl_apply.T7 := by kernel_rfl
theorem impl_apply.bits7 : waitsOk impl_apply.T7.2 impl_apply.B7 = true := by kernel_rfl
set_option maxHeartbeats 8000000 in
set_option maxRecDepth 100000 in
theorem impl_apply.calls (k : Nat) (A0 : Option Addr) (c0 : Nat) (l0 : List (S26)) (a1_0 a1_1 a1_2 a1_3 a1_4 a1_5 a1_6 a1_7 a1_8 a1_9 a1_10 a1_11 : Int) (r1 : List (S26)) (r2 : Bool) (w : World) (hr0 : Kd.C k26 w A0 l0.length l0) (hc0 : l0.length ≤ c0) (h : impl_apply.f k l0 a1_0 a1_1 a1_2 a1_3 a1_4 a1_5 a1_6 a1_7 a1_8 a1_9 a1_10 a1_11 = some (r1, r2)) :
  Calls Try.prog 67 #[.slice A0 l0.length c0, .agg #[.int .i64 a1_0, .int .i64 a1_1, .int .i64 a1_2, .int .i64 a1_3, .int .i64 a1_4, .int .i64 a1_5, .int .i64 a1_6, .int .i64 a1_7, .int .i64 a1_8, .int .i64 a1_9, .int .i64 a1_10, .int .i64 a1_11]] w fun e w' => ∃ v0_ : Value, e = .returned (.tuple #[v0_, .bool r2]) ∧ Kd.R k26 26 w' w.heap.size (fun _ => True) v0_ r1 ∧ Below w.heap.size w w' := by
 have hu28 := Try.underlying28
 have hu26 := Try.underlying26
 have HR0 := Aside0.mk hr0
 have HC0 := Aside0.mk hc0
 clear hr0 hc0
 have HB := Aside0.mk (Below.refl w.heap.size w)
 have H := h
 clear h
 unfold impl_apply.f at H
 replace H := bA H
 obtain ⟨t169, A3, H⟩ := H
 rcases Bool.eq_false_or_eq_true t169 with rfl | rfl
 ·replace H := iT rfl H
  replace H := ifI H
  rcases H with ⟨H, -, c5b0, c5b1⟩ | ⟨H, c5, c5b0, c5b1⟩
  ·have HC6 := Aside0.mk H
   clear H
   go_enter Try.func67, Try.ntmps67
   go_upto_region 4 with (first | ((with_reducible refine gD 3 ?_); (try (refine gate_guard (by rfl) ?_; dsimp only)); refine bxE 3 28 #[.int .i64 a1_0, .int .i64 a1_1, .int .i64 a1_2, .int .i64 a1_3, .int .i64 a1_4, .int .i64 a1_5, .int .i64 a1_6, .int .i64 a1_7, .int .i64 a1_8, .int .i64 a1_9, .int .i64 a1_10, .int .i64 a1_11] fun gb168 w7 hg hbox hb => ?_; have BK168 := Aside0.mk hbox; have GE168 := gB HB hg; replace HB := uB HB hb; clear hb hbox hg; have ⟨hcz8_0, hcz8_1, hcz8_2, hcz8_3, hcz8_4, hcz8_5, hcz8_6, hcz8_7, hcz8_8, hcz8_9, hcz8_10, hcz8_11, hfz8_0⟩ := cz12 BK168) | ((with_reducible refine gC 61 ?_); refine lA (some 8) Try.func61 (impl_isEdit.calls a1_0 a1_1 a1_2 a1_3 a1_4 a1_5 a1_6 a1_7 a1_8 a1_9 a1_10 a1_11 true _ A3.out) ?_; intro w9 hb; replace BK168 := uK BK168 hb; replace HB := uB HB hb; (try clear hb); (try clear hk); have ⟨hcz10_0, hcz10_1, hcz10_2, hcz10_3, hcz10_4, hcz10_5, hcz10_6, hcz10_7, hcz10_8, hcz10_9, hcz10_10, hcz10_11, hfz10_0⟩ := cz12 BK168))
   (try simp only [Act.put, List.setIfInBounds_toArray, List.set_cons_zero, List.set_cons_succ])
   go_cut [22] (fun v22 wc => ∃ (kq : Nat) (x22_5 : Bool), v22 = .bool x22_5 ∧ Aside0 (impl_apply.j0 kq l0 x22_5 a1_0 a1_1 a1_2 a1_3 a1_4 a1_5 a1_6 a1_7 a1_8 a1_9 a1_10 a1_11 = some (r1, r2)) ∧ Aside0 (kq ≤ k) ∧ Aside0 (wc.heap[gb168]? = some (.cells #[.int .i64 a1_0, .int .i64 a1_1, .int .i64 a1_2, .int .i64 a1_3, .int .i64 a1_4, .int .i64 a1_5, .int .i64 a1_6, .int .i64 a1_7, .int .i64 a1_8, .int .i64 a1_9, .int .i64 a1_10, .int .i64 a1_11] 28 (0, 0))) ∧ Aside0 (Below w.heap.size w wc))
   case first =>
    have H := HC6.out
    clear HC6
    replace H := ifD H
    rcases H with ⟨H, -, c11b0⟩ | ⟨H, -, c11b0⟩
    ·(first | rw [c11b0] | (simp only [i64_w, i32_w]; rw [c11b0]) | skip)
     have H' := Aside0.mk H
     clear H
     have ⟨hcz12_0, hcz12_1, hcz12_2, hcz12_3, hcz12_4, hcz12_5, hcz12_6, hcz12_7, hcz12_8, hcz12_9, hcz12_10, hcz12_11, hfz12_0⟩ := cz12 BK168
     go_wp2
     go_meet
     case rel => exact ⟨_, (true), rB, H', leB, (aK BK168), (aB HB)⟩
    ·(first | rw [c11b0] | (simp only [i64_w, i32_w]; rw [c11b0]) | skip)
     have H' := Aside0.mk H
     clear H
     have ⟨hcz13_0, hcz13_1, hcz13_2, hcz13_3, hcz13_4, hcz13_5, hcz13_6, hcz13_7, hcz13_8, hcz13_9, hcz13_10, hcz13_11, hfz13_0⟩ := cz12 BK168
     go_wp2
     go_meet
     case rel => exact ⟨_, (((l0.length : Int) == 12)), rB, H', leB, (aK BK168), (aB HB)⟩
   case rest =>
    clear HC6
    try clear c5
    try clear c5b0
    try clear c5b1
    try clear hcz10_0
    try clear hcz10_1
    try clear hcz10_10
    try clear hcz10_11
    try clear hcz10_2
    try clear hcz10_3
    try clear hcz10_4
    try clear hcz10_5
    try clear hcz10_6
    try clear hcz10_7
    try clear hcz10_8
    try clear hcz10_9
    try clear hcz8_0
    try clear hcz8_1
    try clear hcz8_10
    try clear hcz8_11
    try clear hcz8_2
    try clear hcz8_3
    try clear hcz8_4
    try clear hcz8_5
    try clear hcz8_6
    try clear hcz8_7
    try clear hcz8_8
    try clear hcz8_9
    try clear hfz10_0
    try clear hfz8_0
    obtain ⟨kq, x22_5, rfl, HA, HJ5, BK168, HB⟩ := hcut
    cases kq with
    | zero => exact absurd HA.out (by simp [impl_apply.j0])
    | succ kj5 =>
     have H := HA.out
     clear HA
     simp only [impl_apply.j0] at H
     rcases Bool.eq_false_or_eq_true x22_5 with rfl | rfl
     ·replace H := iT rfl H
      simp only [Option.some.injEq, Prod.mk.injEq] at H
      obtain ⟨rfl, rfl⟩ := H
      go_wp2
      go_ret2
      exact ⟨_, eB, by first | exact Kd.R_nil _ _ _ _ _ | exact Kd.N_nil _ _ _ _ _ | exact Kd.V_nil _ _ _ _ _ | exact Kd.Q_nil _ _ _ _ _ | exact Kd.S_nil _ _ _ _ _, (bW HB)⟩
     ·replace H := iF (by decide) H
      replace H := bA H
      obtain ⟨t170, A15, H⟩ := H
      obtain ⟨y173, hy173⟩ : ∃ y_ : List (S26), y_ = (([(⟨a1_7, a1_8, a1_9, a1_10, a1_11⟩ : S26)] : List (S26))) := ⟨_, rfl⟩
      replace H : ((impl_Leg_90.f t170 a1_1 y173).bind fun t176 => (some (t176, true))) = some (r1, r2) := by first | (rw [hy173]; with_reducible exact H) | (have H2_ := (Option.bind_some _ _).symm.trans H; rw [hy173]; with_reducible exact H2_) | (have H2_ := (Option.bind_some _ _).symm.trans H; with_reducible exact H2_) | with_reducible exact H | (rw [hy173]; exact H) | exact H
      have Ny173 := Aside0.mk hy173
      clear hy173
      replace H := bA H
      obtain ⟨t176, A16, H⟩ := H
      simp only [Option.some.injEq, Prod.mk.injEq] at H
      obtain ⟨rfl, rfl⟩ := H
      try go_wp2
      replace BK168 := dK BK168
      replace HB := Aside0.mk (below_drew1 HB.out)
      refine start_ (n := 10) (S := fun w' => True) (ds := []) #[false, false, false, false, false, false, false, false, false, false] (by kernel_rfl) rfl rfl trivial (fun hHeld => ?_); refine with_tabW impl_apply.tab6 impl_apply.bits6 (fun HT_ HW_ => ?_)
      generalize wc.drew = w17 at BK168 HB hHeld ⊢
      refine pA 0 23 HT_ ?_
      refine pA 2 25 HT_ ?_
      refine pA 4 27 HT_ ?_
      refine inv_at [1, 3, 5, 6, 7, 8, 9] (fun a0_ b a w' => ∃ (v171 v174 v177 m8_ : Value), a = putSel a0_ b [(1, 24, v171), (3, 26, .int .i64 a1_1), (5, 28, .agg #[.int .i64 a1_7, .int .i64 a1_8, .int .i64 a1_9, .int .i64 a1_10, .int .i64 a1_11]), (6, 29, v174), (7, 30, v177), (8, 4, m8_), (9, 5, .bool true)] ∧ (w'.heap[gb168]? = some (.cells #[.int .i64 a1_0, .int .i64 a1_1, .int .i64 a1_2, .int .i64 a1_3, .int .i64 a1_4, .int .i64 a1_5, .int .i64 a1_6, .int .i64 a1_7, .int .i64 a1_8, .int .i64 a1_9, .int .i64 a1_10, .int .i64 a1_11] 28 (0, 0))) ∧ (Below w.heap.size w w') ∧ (b 1 = true → b 7 = true ∨ Kd.R k26 26 w' w.heap.size (fun _ => True) v171 t170) ∧ (b 6 = true → b 7 = true ∨ Kd.R k26 26 w' w.heap.size (fun _ => True) v174 y173) ∧ (b 7 = true → Kd.R k26 26 w' w.heap.size (fun _ => True) v177 t176) ∧ (b 8 = true → (m8_ : Value) = v177) ∧ (b 1 = true → b 6 = true → ∀ k_ : Nat, Value.ownBlock v171 = some k_ → Value.ownBlock v174 ≠ some k_)) HT_.out HW_.out (by kernel_rfl) (by kernel_rfl) ?_ ?_ ?_
      ·exact ⟨.bool false, .bool false, .bool false, .bool false, by simp only [putSel, Bool.false_eq_true, if_false], BK168.out, HB.out, fun h_ => absurd h_ (by decide), fun h_ => absurd h_ (by decide), fun h_ => absurd h_ (by decide), fun h_ => absurd h_ (by decide), fun h_ => absurd h_ (by decide)⟩
      ·skip
       clear BK168 HB
       refine steps_cons ?_ ?_
       ·rintro b a w' ⟨v171, v174, v177, m8_, ha, Q_BK168, Q_HB, Q_HO172, Q_HO175, Q_HO178, Q_X8_, Q_D⟩ hb_ hon hoff
        refine ⟨_, rfl, fun K hK => ?_⟩
        have e23 : a.tmps[23]? = some (.slice A0 l0.length c0) := by rw [ha]; exact (putSel_off rfl).trans rfl
        replace ha := Aside0.mk ha
        have BK168 := Aside0.mk Q_BK168
        have HB := Aside0.mk Q_HB
        refine goes_ Try.func91 (by kernel_rfl) rfl #[.slice A0 l0.length c0] (by rfl) rfl rfl (by first | (simp only [List.map_toArray, List.map_cons, List.map_nil, Act.eval, Array.getD_eq_getD_getElem?, Option.getD_some, e23]; done) | (simp only [List.map_toArray, List.map_cons, List.map_nil, Act.eval, Array.getD_eq_getD_getElem?, Option.getD_some, e23]; rfl)) ?_
        with_reducible refine (impl_Leg_91.calls _ _ l0 t170 _ ?side1 ?side2 A15.out).mono ?_
        (case side1 => repeat (first | exact (Kd.C_below HR0.out HB.out) | (with_reducible refine Kd.C_alloc ?_ _) | (with_reducible refine Kd.C_drewN ?_ _) | (with_reducible refine Kd.C_drew ?_)))
        (case side2 => exact HC0.out)
        rintro e w18 ⟨v171, rfl, ho0, hb⟩
        refine ⟨_, rfl, ?_⟩
        have n0_ := Aside0.mk (Kd.R_lower ho0 (below_size (bW HB)))
        have n1_ := Aside0.mk (blk_below (g := gb168) (o := .cells #[.int .i64 a1_0, .int .i64 a1_1, .int .i64 a1_2, .int .i64 a1_3, .int .i64 a1_4, .int .i64 a1_5, .int .i64 a1_6, .int .i64 a1_7, .int .i64 a1_8, .int .i64 a1_9, .int .i64 a1_10, .int .i64 a1_11] 28 (0, 0)) (upK BK168.out) hb)
        have n2_ := Aside0.mk (below_step (bW HB) hb)
        have z_HO175 := fun (h0_ : b 6 = true) => (Q_HO175 h0_).imp id (fun q_ => (show Kd.R k26 26 w18 w.heap.size (fun _ => True) v174 y173 from by first | exact (Kd.R_elder' (by (with_reducible repeat (first | apply Kd.R_alloc | apply Kd.R_drewN | apply Kd.R_drew)); exact q_) (Kd.R_base ho0) hb) | exact Kd.R_mono (Kd.R_elder' (by (with_reducible repeat (first | apply Kd.R_alloc | apply Kd.R_drewN | apply Kd.R_drew)); exact q_) (Kd.R_base ho0) hb) (fun _ h_ => by first | trivial | exact h_ | exact h_.1)))
        have z_D := fun (h6_ : b 6 = true) (k_ : Nat) (e1_ : Value.ownBlock v171 = some k_) (e2_ : Value.ownBlock v174 = some k_) => (absurd (Kd.R_base ho0 k_ e1_) (Nat.not_le.mpr (Kd.R_lt ((Q_HO175 h6_).resolve_left (fun h_ => absurd ((hoff 7 (by kernel_rfl)).symm.trans h_) (by decide))) k_ e2_)) : False)
        clear BK168
        clear HB
        have HO172 := n0_
        have BK168 := n1_
        have HB := n2_
        clear n0_ n1_ n2_
        (try clear hb)
        (try clear ho0)
        refine hK.out _ _ ⟨v171, v174, v177, m8_, (by rw [ha.out]; exact putSel_upk 0 hb_ rfl rfl rfl), (upK BK168.out), (bW HB), fun _ => .inr (upR HO172.out), z_HO175, fun h0_ => absurd ((hoff 7 (by kernel_rfl)).symm.trans h0_) (by decide), fun h0_ => absurd ((hoff 8 (by kernel_rfl)).symm.trans h0_) (by decide), fun _ h6_ k_ e1_ e2_ => z_D h6_ k_ e1_ e2_⟩
       refine steps_cons ?_ ?_
       ·rintro b a w' ⟨v171, v174, v177, m8_, ha, Q_BK168, Q_HB, Q_HO172, Q_HO175, Q_HO178, Q_X8_, Q_D⟩ hb_ hon hoff
        refine ⟨_, rfl, fun K hK => ?_⟩
        have e25 : a.tmps[25]? = some (.pointer (some ⟨gb168, 1, none⟩)) := by rw [ha]; exact (putSel_off rfl).trans rfl
        replace ha := Aside0.mk ha
        have BK168 := Aside0.mk Q_BK168
        have HB := Aside0.mk Q_HB
        have ⟨hc0_, hc1_, hc2_, hc3_, hc4_, hc5_, hc6_, hc7_, hc8_, hc9_, hc10_, hc11_, _⟩ := cz12 BK168
        refine value_ (w1 := w') (v := .int .i64 a1_1) (by rfl) rfl ?_ ?_
        ·go_simp
         (try simp only [i64_w])
         try rfl
        refine hK.out _ _ ⟨v171, v174, v177, m8_, (by rw [ha.out]; exact putSel_upk 1 hb_ rfl rfl rfl), Q_BK168, Q_HB, Q_HO172, Q_HO175, fun h0_ => absurd ((hoff 7 (by kernel_rfl)).symm.trans h0_) (by decide), fun h0_ => absurd ((hoff 8 (by kernel_rfl)).symm.trans h0_) (by decide), Q_D⟩
       refine steps_cons ?_ ?_
       ·rintro b a w' ⟨v171, v174, v177, m8_, ha, Q_BK168, Q_HB, Q_HO172, Q_HO175, Q_HO178, Q_X8_, Q_D⟩ hb_ hon hoff
        refine ⟨_, rfl, fun K hK => ?_⟩
        have e27 : a.tmps[27]? = some (.pointer (some ⟨gb168, 7, none⟩)) := by rw [ha]; exact (putSel_off rfl).trans rfl
        replace ha := Aside0.mk ha
        have BK168 := Aside0.mk Q_BK168
        have HB := Aside0.mk Q_HB
        have ⟨hc0_, hc1_, hc2_, hc3_, hc4_, hc5_, hc6_, hc7_, hc8_, hc9_, hc10_, hc11_, _⟩ := cz12 BK168
        refine value_ (w1 := w') (v := .agg #[.int .i64 a1_7, .int .i64 a1_8, .int .i64 a1_9, .int .i64 a1_10, .int .i64 a1_11]) (by rfl) rfl ?_ ?_
        ·go_simp
         (try simp only [i64_w])
         try rfl
        refine hK.out _ _ ⟨v171, v174, v177, m8_, (by rw [ha.out]; exact putSel_upk 2 hb_ rfl rfl rfl), Q_BK168, Q_HB, Q_HO172, fun h0_ => absurd ((hoff 6 (by kernel_rfl)).symm.trans h0_) (by decide), fun h0_ => absurd ((hoff 7 (by kernel_rfl)).symm.trans h0_) (by decide), fun h0_ => absurd ((hoff 8 (by kernel_rfl)).symm.trans h0_) (by decide), fun _ h6_ => absurd ((hoff 6 (by kernel_rfl)).symm.trans h6_) (by decide)⟩
       refine steps_cons ?_ ?_
       ·rintro b a w' ⟨v171, v174, v177, m8_, ha, Q_BK168, Q_HB, Q_HO172, Q_HO175, Q_HO178, Q_X8_, Q_D⟩ hb_ hon hoff
        refine ⟨_, rfl, fun K hK => ?_⟩
        have e28 : a.tmps[28]? = some (.agg #[.int .i64 a1_7, .int .i64 a1_8, .int .i64 a1_9, .int .i64 a1_10, .int .i64 a1_11]) := by rw [ha]; exact putSel_on (e := (5, 28, .agg #[.int .i64 a1_7, .int .i64 a1_8, .int .i64 a1_9, .int .i64 a1_10, .int .i64 a1_11])) 2 rfl rfl (hon 5 (by kernel_rfl)) rfl
        replace ha := Aside0.mk ha
        have BK168 := Aside0.mk Q_BK168
        have HB := Aside0.mk Q_HB
        refine Kd.R_lit_step k26 _ 26 ?hg (N := 29) ?hd (xs := ([(⟨a1_7, a1_8, a1_9, a1_10, a1_11⟩ : S26)] : List (S26))) (inner := [.int .i64 a1_7, .int .i64 a1_8, .int .i64 a1_9, .int .i64 a1_10, .int .i64 a1_11]) (ok := fun _ => True) (okp := fun _ => True) ?hr ?hp (fun _ hk => hk) trivial (Below.refl _ _) (Nat.le_refl _) (by simp) ?_; (case hd => rfl); (case hg => rfl); (case hr => first | (go_simp; done) | (go_simp; rfl)); (case hp => exact (Reps.c5 (show Kd.M k26 _ _ _ (⟨a1_7, a1_8, a1_9, a1_10, a1_11⟩ : S26) [.int .i64 a1_7, .int .i64 a1_8, .int .i64 a1_9, .int .i64 a1_10, .int .i64 a1_11] from (k26_mkM _ _ _ (⟨a1_7, a1_8, a1_9, a1_10, a1_11⟩ : S26) )) (Reps.none _ _)))
        intro v174 w18 ho19 hb hg_ hnew_
        clear hg_ hnew_
        (first | rw [← Ny173.out] at ho19 | (simp only [Int.reduceToNat] at ho19; rw [← Ny173.out] at ho19))
        have n0_ := Aside0.mk (Kd.R_lower ho19 (below_size (bW HB)))
        have n1_ := Aside0.mk (blk_below (g := gb168) (o := .cells #[.int .i64 a1_0, .int .i64 a1_1, .int .i64 a1_2, .int .i64 a1_3, .int .i64 a1_4, .int .i64 a1_5, .int .i64 a1_6, .int .i64 a1_7, .int .i64 a1_8, .int .i64 a1_9, .int .i64 a1_10, .int .i64 a1_11] 28 (0, 0)) (upK BK168.out) hb)
        have n2_ := Aside0.mk (below_step (bW HB) hb)
        have z_HO172 := fun (h0_ : b 1 = true) => (Q_HO172 h0_).imp id (fun q_ => (show Kd.R k26 26 w18 w.heap.size (fun _ => True) v171 t170 from by first | exact (Kd.R_elder' (by (with_reducible repeat (first | apply Kd.R_alloc | apply Kd.R_drewN | apply Kd.R_drew)); exact q_) (Kd.R_base ho19) hb) | exact Kd.R_mono (Kd.R_elder' (by (with_reducible repeat (first | apply Kd.R_alloc | apply Kd.R_drewN | apply Kd.R_drew)); exact q_) (Kd.R_base ho19) hb) (fun _ h_ => by first | trivial | exact h_ | exact h_.1)))
        have z_D := fun (h6_ : b 1 = true) (k_ : Nat) (e1_ : Value.ownBlock v171 = some k_) (e2_ : Value.ownBlock v174 = some k_) => (absurd (Kd.R_base ho19 k_ e2_) (Nat.not_le.mpr (Kd.R_lt ((Q_HO172 h6_).resolve_left (fun h_ => absurd ((hoff 7 (by kernel_rfl)).symm.trans h_) (by decide))) k_ e1_)) : False)
        clear BK168
        clear HB
        have HO175 := n0_
        have BK168 := n1_
        have HB := n2_
        clear n0_ n1_ n2_
        clear hb ho19
        refine hK.out _ _ ⟨v171, v174, v177, m8_, (by rw [ha.out]; exact putSel_upk 3 hb_ rfl rfl rfl), (upK BK168.out), (bW HB), z_HO172, fun _ => .inr (upR HO175.out), fun h0_ => absurd ((hoff 7 (by kernel_rfl)).symm.trans h0_) (by decide), fun h0_ => absurd ((hoff 8 (by kernel_rfl)).symm.trans h0_) (by decide), fun h1_ _ k_ e1_ e2_ => z_D h1_ k_ e1_ e2_⟩
       refine steps_cons ?_ ?_
       ·rintro b a w' ⟨v171, v174, v177, m8_, ha, Q_BK168, Q_HB, Q_HO172, Q_HO175, Q_HO178, Q_X8_, Q_D⟩ hb_ hon hoff
        refine ⟨_, rfl, fun K hK => ?_⟩
        have e24 : a.tmps[24]? = some (v171) := by rw [ha]; exact putSel_on (e := (1, 24, v171)) 0 rfl rfl (hon 1 (by kernel_rfl)) rfl
        have e26 : a.tmps[26]? = some (.int .i64 a1_1) := by rw [ha]; exact putSel_on (e := (3, 26, .int .i64 a1_1)) 1 rfl rfl (hon 3 (by kernel_rfl)) rfl
        have e29 : a.tmps[29]? = some (v174) := by rw [ha]; exact putSel_on (e := (6, 29, v174)) 3 rfl rfl (hon 6 (by kernel_rfl)) rfl
        replace ha := Aside0.mk ha
        have BK168 := Aside0.mk Q_BK168
        have HB := Aside0.mk Q_HB
        have HO172 := Aside0.mk ((Q_HO172 (hon 1 (by kernel_rfl))).resolve_left (fun h_ => absurd (hb_.symm.trans h_) (by decide)))
        have HO175 := Aside0.mk ((Q_HO175 (hon 6 (by kernel_rfl))).resolve_left (fun h_ => absurd (hb_.symm.trans h_) (by decide)))
        obtain ⟨Ao22, co22, eo22⟩ := Kd.R_slice HO172.out
        (first | subst eo22 | (injection eo22 with f1_ f2_ f3_; have f4_ := f1_.symm; have f5_ := f3_.symm; clear f1_ f2_ f3_; subst f4_; subst f5_))
        obtain ⟨Ao23, co23, eo23⟩ := Kd.R_slice HO175.out
        (first | subst eo23 | (injection eo23 with f1_ f2_ f3_; have f4_ := f1_.symm; have f5_ := f3_.symm; clear f1_ f2_ f3_; subst f4_; subst f5_))
        refine goes_ Try.func90 (by kernel_rfl) rfl #[.slice Ao22 t170.length co22, .int .i64 a1_1, .slice Ao23 y173.length co23] (by rfl) rfl rfl (by first | (simp only [List.map_toArray, List.map_cons, List.map_nil, Act.eval, Array.getD_eq_getD_getElem?, Option.getD_some, e24, e26, e29]; done) | (simp only [List.map_toArray, List.map_cons, List.map_nil, Act.eval, Array.getD_eq_getD_getElem?, Option.getD_some, e24, e26, e29]; rfl)) ?_
        with_reducible refine (impl_Leg_90.calls _ _ t170 a1_1 _ _ y173 t176 _ w.heap.size HO172.out HO175.out (Q_D (hon 1 (by kernel_rfl)) (hon 6 (by kernel_rfl))) HB.out.size A16.out).mono ?_
        rintro e w24 ⟨v177, rfl, ho0, hb, hoth_⟩
        refine ⟨_, rfl, ?_⟩
        have HO178 := Aside0.mk ho0
        replace HO172 := Aside0.mk trivial
        replace HO175 := Aside0.mk trivial
        replace BK168 := Aside0.mk (hoth_ _ _ BK168.out (fun _ _ h_ => by injection h_ with _ h_; exact absurd h_ (by decide)))
        replace HB := Aside0.mk (HB.out.trans hb)
        (try clear hb)
        (try clear ho0)
        refine hK.out _ _ ⟨.slice Ao22 t170.length co22, .slice Ao23 y173.length co23, v177, m8_, (by rw [ha.out]; exact putSel_upk 4 hb_ rfl rfl rfl), (upK BK168.out), (bW HB), fun _ => .inl rfl, fun _ => .inl rfl, fun _ => (upR HO178.out), fun h0_ => absurd ((hoff 8 (by kernel_rfl)).symm.trans h0_) (by decide), Q_D⟩
       refine steps_cons ?_ ?_
       ·rintro b a w' ⟨v171, v174, v177, m8_, ha, Q_BK168, Q_HB, Q_HO172, Q_HO175, Q_HO178, Q_X8_, Q_D⟩ hb_ hon hoff
        refine ⟨_, rfl, fun K hK => ?_⟩
        have e30 : a.tmps[30]? = some (v177) := by rw [ha]; exact putSel_on (e := (7, 30, v177)) 4 rfl rfl (hon 7 (by kernel_rfl)) rfl
        replace ha := Aside0.mk ha
        have BK168 := Aside0.mk Q_BK168
        have HB := Aside0.mk Q_HB
        have HO172 := Aside0.mk (Q_HO172 (hon 1 (by kernel_rfl)))
        have HO175 := Aside0.mk (Q_HO175 (hon 6 (by kernel_rfl)))
        have HO178 := Aside0.mk (Q_HO178 (hon 7 (by kernel_rfl)))
        refine value_ (w1 := w') (v := v177) (by rfl) rfl ?_ ?_
        ·go_simp
         (try simp only [i64_w])
         try rfl
        refine hK.out _ _ ⟨v171, v174, v177, (v177), (by rw [ha.out]; exact putSel_upk 5 hb_ rfl rfl rfl), Q_BK168, Q_HB, Q_HO172, Q_HO175, Q_HO178, fun _ => rfl, Q_D⟩
       refine steps_cons ?_ ?_
       ·rintro b a w' ⟨v171, v174, v177, m8_, ha, Q_BK168, Q_HB, Q_HO172, Q_HO175, Q_HO178, Q_X8_, Q_D⟩ hb_ hon hoff
        refine ⟨_, rfl, fun K hK => ?_⟩
        replace ha := Aside0.mk ha
        have BK168 := Aside0.mk Q_BK168
        have HB := Aside0.mk Q_HB
        have HO172 := Aside0.mk (Q_HO172 (hon 1 (by kernel_rfl)))
        have HO175 := Aside0.mk (Q_HO175 (hon 6 (by kernel_rfl)))
        have HO178 := Aside0.mk (Q_HO178 (hon 7 (by kernel_rfl)))
        refine value_ (w1 := w') (v := .bool true) (by rfl) rfl ?_ ?_
        ·go_simp
         (try simp only [i64_w])
         try rfl
        refine hK.out _ _ ⟨v171, v174, v177, m8_, (by rw [ha.out]; exact putSel_upk 6 hb_ rfl rfl rfl), Q_BK168, Q_HB, Q_HO172, Q_HO175, Q_HO178, Q_X8_, Q_D⟩
       exact steps_nil
      rintro b a w24 hall ⟨v171, v174, v177, m8_, ha, Q_BK168, Q_HB, Q_HO172, Q_HO175, Q_HO178, Q_X8_, Q_D⟩
      clear BK168 HB
      have hb1_ := hall 1 (by kernel_rfl)
      have hb3_ := hall 3 (by kernel_rfl)
      have hb5_ := hall 5 (by kernel_rfl)
      have hb6_ := hall 6 (by kernel_rfl)
      have hb7_ := hall 7 (by kernel_rfl)
      have hb8_ := hall 8 (by kernel_rfl)
      have hb9_ := hall 9 (by kernel_rfl)
      subst ha
      obtain rfl := Q_X8_ hb8_
      simp only [putSel, hb1_, hb3_, hb5_, hb6_, hb7_, hb8_, hb9_, if_true, Act.put, List.setIfInBounds_toArray, List.set_cons_zero, List.set_cons_succ]
      have BK168 := Aside0.mk Q_BK168
      clear Q_BK168
      have HB := Aside0.mk Q_HB
      clear Q_HB
      have HO172 := Aside0.mk (Q_HO172 hb1_)
      clear Q_HO172
      have HO175 := Aside0.mk (Q_HO175 hb6_)
      clear Q_HO175
      have HO178 := Aside0.mk (Q_HO178 hb7_)
      clear Q_HO178
      clear Q_D
      clear hall hb1_ hb3_ hb5_ hb6_ hb7_ hb8_ hb9_
      try go_wp2
      go_ret2
      exact ⟨_, eB, by (with_reducible repeat (first | apply Kd.R_alloc | apply Kd.R_drewN | apply Kd.R_drew)); exact Kd.R_mono HO178.out (fun _ hk => trivial), (bW HB)⟩
  ·have HC25 := Aside0.mk H
   clear H
   go_enter Try.func67, Try.ntmps67
   go_upto_region 7 with (first | ((with_reducible refine gD 3 ?_); (try (refine gate_guard (by rfl) ?_; dsimp only)); refine bxE 3 28 #[.int .i64 a1_0, .int .i64 a1_1, .int .i64 a1_2, .int .i64 a1_3, .int .i64 a1_4, .int .i64 a1_5, .int .i64 a1_6, .int .i64 a1_7, .int .i64 a1_8, .int .i64 a1_9, .int .i64 a1_10, .int .i64 a1_11] fun gb168 w26 hg hbox hb => ?_; have BK168 := Aside0.mk hbox; have GE168 := gB HB hg; replace HB := uB HB hb; clear hb hbox hg; have ⟨hcz27_0, hcz27_1, hcz27_2, hcz27_3, hcz27_4, hcz27_5, hcz27_6, hcz27_7, hcz27_8, hcz27_9, hcz27_10, hcz27_11, hfz27_0⟩ := cz12 BK168) | ((with_reducible refine gC 61 ?_); refine lA (some 8) Try.func61 (impl_isEdit.calls a1_0 a1_1 a1_2 a1_3 a1_4 a1_5 a1_6 a1_7 a1_8 a1_9 a1_10 a1_11 true _ A3.out) ?_; intro w28 hb; replace BK168 := uK BK168 hb; replace HB := uB HB hb; (try clear hb); (try clear hk); have ⟨hcz29_0, hcz29_1, hcz29_2, hcz29_3, hcz29_4, hcz29_5, hcz29_6, hcz29_7, hcz29_8, hcz29_9, hcz29_10, hcz29_11, hfz29_0⟩ := cz12 BK168))
   (try simp only [Act.put, List.setIfInBounds_toArray, List.set_cons_zero, List.set_cons_succ])
   go_cut [45] (fun v45 wc => ∃ (kq : Nat) (x45_24 : Bool), v45 = .bool x45_24 ∧ Aside0 (impl_apply.j1 kq l0 x45_24 a1_0 a1_1 a1_2 a1_3 a1_4 a1_5 a1_6 a1_7 a1_8 a1_9 a1_10 a1_11 = some (r1, r2)) ∧ Aside0 (kq ≤ k) ∧ Aside0 (wc.heap[gb168]? = some (.cells #[.int .i64 a1_0, .int .i64 a1_1, .int .i64 a1_2, .int .i64 a1_3, .int .i64 a1_4, .int .i64 a1_5, .int .i64 a1_6, .int .i64 a1_7, .int .i64 a1_8, .int .i64 a1_9, .int .i64 a1_10, .int .i64 a1_11] 28 (0, 0))) ∧ Aside0 (Below w.heap.size w wc))
   case first =>
    have H := HC25.out
    clear HC25
    replace H := ifD H
    rcases H with ⟨H, -, c30b0⟩ | ⟨H, -, c30b0⟩
    ·(first | rw [c30b0] | (simp only [i64_w, i32_w]; rw [c30b0]) | skip)
     have H' := Aside0.mk H
     clear H
     try go_wp2
     replace BK168 := dK BK168
     replace HB := Aside0.mk (below_drew1 HB.out)
     refine sA (n := 15) (S := fun w' => w'.cell? ⟨gb168, 0, none⟩ = some (.int .i64 a1_0) ∧ w'.cell? ⟨gb168, 1, none⟩ = some (.int .i64 a1_1) ∧ w'.cell? ⟨gb168, 2, none⟩ = some (.int .i64 a1_2) ∧ w'.cell? ⟨gb168, 3, none⟩ = some (.int .i64 a1_3) ∧ w'.cell? ⟨gb168, 4, none⟩ = some (.int .i64 a1_4) ∧ w'.cell? ⟨gb168, 5, none⟩ = some (.int .i64 a1_5) ∧ w'.cell? ⟨gb168, 6, none⟩ = some (.int .i64 a1_6) ∧ w'.cell? ⟨gb168, 7, none⟩ = some (.int .i64 a1_7) ∧ w'.cell? ⟨gb168, 8, none⟩ = some (.int .i64 a1_8) ∧ w'.cell? ⟨gb168, 9, none⟩ = some (.int .i64 a1_9) ∧ w'.cell? ⟨gb168, 10, none⟩ = some (.int .i64 a1_10) ∧ w'.cell? ⟨gb168, 11, none⟩ = some (.int .i64 a1_11)) (ds := []) impl_apply.tab7 impl_apply.bits7 #[false, false, false, false, false, false, false, false, false, false, false, false, false, false, false] ⟨cb BK168 0, cb BK168 1, cb BK168 2, cb BK168 3, cb BK168 4, cb BK168 5, cb BK168 6, cb BK168 7, cb BK168 8, cb BK168 9, cb BK168 10, cb BK168 11⟩ fun hHeld HT_ HW_ => ?_
     generalize w28.drew = w31 at BK168 HB hHeld ⊢
     refine pA 0 31 HT_ ?_
     refine pA 2 33 HT_ ?_
     refine pA 3 34 HT_ ?_
     refine tA 1 32 HT_ HW_ hHeld ?_
     refine pA 4 35 HT_ ?_
     refine pA 5 36 HT_ ?_
     refine pU 6 37 HT_ ?_
     refine pU 7 38 HT_ ?_
     refine pU 8 39 HT_ ?_
     refine pU 9 40 HT_ ?_
     refine pU 10 41 HT_ ?_
     refine pU 11 42 HT_ ?_
     refine pU 12 43 HT_ ?_
     refine pU 13 44 HT_ ?_
     refine pA 14 45 HT_ ?_
     refine done_ (done_of HT_.out (by kernel_rfl)) ?_
     try go_wp2
     go_meet
     case rel => exact ⟨_, (true), rB, H', leB, (aK BK168), (aB HB)⟩
    ·(first | rw [c30b0] | (simp only [i64_w, i32_w]; rw [c30b0]) | skip)
     by_cases c32 : 0 ≤ a1_1
     ·rw [if_pos c32] at H
      have c32b0 : decide (0 ≤ a1_1) = true := decide_eq_true c32
      clear c32
      by_cases c33 : a1_1 < (l0.length : Int)
      ·rw [if_pos c33] at H
       have c33b0 : decide (a1_1 < (l0.length : Int)) = true := decide_eq_true c33
       clear c33
       have H' := Aside0.mk H
       clear H
       try go_wp2
       replace BK168 := dK BK168
       replace HB := Aside0.mk (below_drew1 HB.out)
       have p179 : 0 ≤ (a1_1 : Int) := of_decide_eq_true asmB
       have q179 : a1_1 < (l0.length : Int) := of_decide_eq_true asmB
       obtain ⟨ad179, e179, hx179_0, hx179_1, hx179_2, hx179_3, hx179_4⟩ := at_T26 HR0.out a1_1 p179 q179
       have hw179_4 := hx179_4
       have hw179_3 := hx179_3
       have hw179_2 := hx179_2
       have hw179_1 := hx179_1
       have hw179_0 := hx179_0
       cases e179
       replace hx179_0 := bx HB.out hx179_0
       replace hx179_1 := bx HB.out hx179_1
       replace hx179_2 := bx HB.out hx179_2
       replace hx179_3 := bx HB.out hx179_3
       replace hx179_4 := bx HB.out hx179_4
       replace p179 := eq_true p179
       replace q179 := eq_true q179
       refine sA (n := 15) (S := fun w' => w'.cell? ⟨gb168, 0, none⟩ = some (.int .i64 a1_0) ∧ w'.cell? ⟨gb168, 1, none⟩ = some (.int .i64 a1_1) ∧ w'.cell? ⟨gb168, 2, none⟩ = some (.int .i64 a1_2) ∧ w'.cell? ⟨gb168, 3, none⟩ = some (.int .i64 a1_3) ∧ w'.cell? ⟨gb168, 4, none⟩ = some (.int .i64 a1_4) ∧ w'.cell? ⟨gb168, 5, none⟩ = some (.int .i64 a1_5) ∧ w'.cell? ⟨gb168, 6, none⟩ = some (.int .i64 a1_6) ∧ w'.cell? ⟨gb168, 7, none⟩ = some (.int .i64 a1_7) ∧ w'.cell? ⟨gb168, 8, none⟩ = some (.int .i64 a1_8) ∧ w'.cell? ⟨gb168, 9, none⟩ = some (.int .i64 a1_9) ∧ w'.cell? ⟨gb168, 10, none⟩ = some (.int .i64 a1_10) ∧ w'.cell? ⟨gb168, 11, none⟩ = some (.int .i64 a1_11) ∧ w'.cell? (ad179.add ((a1_1).toNat * 5)) = some (.int .i64 ((rd_T26 l0 a1_1).f0)) ∧ w'.cell? ⟨(ad179.add ((a1_1).toNat * 5)).block, (ad179.add ((a1_1).toNat * 5)).off + 1, none⟩ = some (.int .i64 ((rd_T26 l0 a1_1).f1)) ∧ w'.cell? ⟨(ad179.add ((a1_1).toNat * 5)).block, (ad179.add ((a1_1).toNat * 5)).off + 2, none⟩ = some (.int .i64 ((rd_T26 l0 a1_1).f2)) ∧ w'.cell? ⟨(ad179.add ((a1_1).toNat * 5)).block, (ad179.add ((a1_1).toNat * 5)).off + 3, none⟩ = some (.int .i64 ((rd_T26 l0 a1_1).f3)) ∧ w'.cell? ⟨(ad179.add ((a1_1).toNat * 5)).block, (ad179.add ((a1_1).toNat * 5)).off + 4, none⟩ = some (.int .i64 ((rd_T26 l0 a1_1).f4))) (ds := []) impl_apply.tab7 impl_apply.bits7 #[false, false, false, false, false, false, false, false, false, false, false, false, false, false, false] ⟨cb BK168 0, cb BK168 1, cb BK168 2, cb BK168 3, cb BK168 4, cb BK168 5, cb BK168 6, cb BK168 7, cb BK168 8, cb BK168 9, cb BK168 10, cb BK168 11, (bX HB hw179_0), (bX HB hw179_1), (bX HB hw179_2), (bX HB hw179_3), (bX HB hw179_4)⟩ fun hHeld HT_ HW_ => ?_
       generalize w28.drew = w34 at BK168 HB hx179_0 hx179_1 hx179_2 hx179_3 hx179_4 hHeld ⊢
       refine pA 0 31 HT_ ?_
       refine pA 2 33 HT_ ?_
       refine pA 3 34 HT_ ?_
       refine tA 1 32 HT_ HW_ hHeld ?_
       refine pA 4 35 HT_ ?_
       refine pA 5 36 HT_ ?_
       refine pA 6 37 HT_ ?_
       refine pA 7 38 HT_ ?_
       refine pA 11 42 HT_ ?_
       refine tA 8 39 HT_ HW_ hHeld ?_
       refine pA 9 40 HT_ ?_
       refine tA 10 41 HT_ HW_ hHeld ?_
       refine tA 12 43 HT_ HW_ hHeld ?_
       refine pA 13 44 HT_ ?_
       refine pA 14 45 HT_ ?_
       refine done_ (done_of HT_.out (by kernel_rfl)) ?_
       try go_wp2
       go_meet
       case rel => exact ⟨_, ((!(((rd_T26 l0 a1_1).f0) == a1_2) || (!(((rd_T26 l0 a1_1).f1) == a1_3) || (!(((rd_T26 l0 a1_1).f2) == a1_4) || (!(((rd_T26 l0 a1_1).f3) == a1_5) || (!(((rd_T26 l0 a1_1).f4) == a1_6))))))), rB, H', leB, (aK BK168), (aB HB)⟩
      ·rw [if_neg c33] at H
       exact absurd H (by simp)
     ·rw [if_neg c32] at H
      exact absurd H (by simp)
   case rest =>
    clear HC25
    try clear c5
    try clear c5b0
    try clear c5b1
    try clear hcz27_0
    try clear hcz27_1
    try clear hcz27_10
    try clear hcz27_11
    try clear hcz27_2
    try clear hcz27_3
    try clear hcz27_4
    try clear hcz27_5
    try clear hcz27_6
    try clear hcz27_7
    try clear hcz27_8
    try clear hcz27_9
    try clear hcz29_0
    try clear hcz29_1
    try clear hcz29_10
    try clear hcz29_11
    try clear hcz29_2
    try clear hcz29_3
    try clear hcz29_4
    try clear hcz29_5
    try clear hcz29_6
    try clear hcz29_7
    try clear hcz29_8
    try clear hcz29_9
    try clear hfz27_0
    try clear hfz29_0
    obtain ⟨kq, x45_24, rfl, HA, HJ24, BK168, HB⟩ := hcut
    cases kq with
    | zero => exact absurd HA.out (by simp [impl_apply.j1])
    | succ kj24 =>
     have H := HA.out
     clear HA
     simp only [impl_apply.j1] at H
     rcases Bool.eq_false_or_eq_true x45_24 with rfl | rfl
     ·replace H := iT rfl H
      simp only [Option.some.injEq, Prod.mk.injEq] at H
      obtain ⟨rfl, rfl⟩ := H
      go_wp2
      go_ret2
      exact ⟨_, eB, by first | exact Kd.R_nil _ _ _ _ _ | exact Kd.N_nil _ _ _ _ _ | exact Kd.V_nil _ _ _ _ _ | exact Kd.Q_nil _ _ _ _ _ | exact Kd.S_nil _ _ _ _ _, (bW HB)⟩
     ·replace H := iF (by decide) H
      replace H := ifI H
      rcases H with ⟨H, -, c36b0, c36b1⟩ | ⟨H, c36, c36b0, c36b1⟩
      ·replace H := bA H
       obtain ⟨t180, A37, H⟩ := H
       simp only [Option.some.injEq, Prod.mk.injEq] at H
       obtain ⟨rfl, rfl⟩ := H
       have ⟨hcz38_0, hcz38_1, hcz38_2, hcz38_3, hcz38_4, hcz38_5, hcz38_6, hcz38_7, hcz38_8, hcz38_9, hcz38_10, hcz38_11, hfz38_0⟩ := cz12 BK168
       go_wp2_with (first | ((with_reducible refine gate_callee (f := 92) rfl ?_); refine goesL_ (some 52) rfl rfl Try.func92 (by kernel_rfl) rfl #[.slice A0 l0.length c0, .int .i64 a1_1] rfl argsB ?_; (with_reducible refine (impl_leaving.calls _ _ l0 a1_1 t180 _ ?side1 ?side2 A37.out).mono ?_); (case side1 => repeat (first | exact (Kd.C_below HR0.out HB.out) | (with_reducible refine Kd.C_alloc ?_ _) | (with_reducible refine Kd.C_drewN ?_ _) | (with_reducible refine Kd.C_drew ?_))); (case side2 => exact HC0.out); rintro e w39 ⟨v181, rfl, ho0, hb⟩; refine ⟨_, rfl, ?_⟩; have HO182 := Aside0.mk (Kd.R_lower ho0 (below_size (bW HB))); replace BK168 := uK BK168 hb; replace HB := uB HB hb; (try clear hb); (try clear hk); (try clear ho0)))
       go_ret2
       exact ⟨_, eB, upR HO182.out, (bW HB)⟩
      ·replace H := bA H
       obtain ⟨t183, A40, H⟩ := H
       by_cases c41 : 0 ≤ a1_1
       ·rw [if_pos c41] at H
        have c41b0 : decide (0 ≤ a1_1) = true := decide_eq_true c41
        clear c41
        by_cases c42 : a1_1 < (t183.length : Int)
        ·rw [if_pos c42] at H
         have c42b0 : decide (a1_1 < (t183.length : Int)) = true := decide_eq_true c42
         clear c42
         obtain ⟨y186, hy186⟩ : ∃ y_ : List (S26), y_ = (t183.set (a1_1 : Int).toNat (⟨a1_7, a1_8, a1_9, a1_10, a1_11⟩ : S26)) := ⟨_, rfl⟩
         replace H : (some (y186, true)) = some (r1, r2) := by first | (rw [hy186]; with_reducible exact H) | (have H2_ := (Option.bind_some _ _).symm.trans H; rw [hy186]; with_reducible exact H2_) | (have H2_ := (Option.bind_some _ _).symm.trans H; with_reducible exact H2_) | with_reducible exact H | (rw [hy186]; exact H) | exact H
         have Ny186 := Aside0.mk hy186
         clear hy186
         simp only [Option.some.injEq, Prod.mk.injEq] at H
         obtain ⟨rfl, rfl⟩ := H
         have ⟨hcz44_0, hcz44_1, hcz44_2, hcz44_3, hcz44_4, hcz44_5, hcz44_6, hcz44_7, hcz44_8, hcz44_9, hcz44_10, hcz44_11, hfz44_0⟩ := cz12 BK168
         go_wp2_with (first | ((with_reducible refine gate_callee (f := 91) rfl ?_); refine goesL_ (some 54) rfl rfl Try.func91 (by kernel_rfl) rfl #[.slice A0 l0.length c0] rfl argsB ?_; (with_reducible refine (impl_Leg_91.calls _ _ l0 t183 _ ?side1 ?side2 A40.out).mono ?_); (case side1 => repeat (first | exact (Kd.C_below HR0.out HB.out) | (with_reducible refine Kd.C_alloc ?_ _) | (with_reducible refine Kd.C_drewN ?_ _) | (with_reducible refine Kd.C_drew ?_))); (case side2 => exact HC0.out); rintro e w45 ⟨v184, rfl, ho0, hb⟩; refine ⟨_, rfl, ?_⟩; have HO185 := Aside0.mk (Kd.R_lower ho0 (below_size (bW HB))); replace BK168 := uK BK168 hb; replace HB := uB HB hb; (try clear hb); (try clear hk); (try clear ho0); have ⟨hcz46_0, hcz46_1, hcz46_2, hcz46_3, hcz46_4, hcz46_5, hcz46_6, hcz46_7, hcz46_8, hcz46_9, hcz46_10, hcz46_11, hfz46_0⟩ := cz12 BK168; have p43 : 0 ≤ (a1_1 : Int) := of_decide_eq_true asmB; have q43 : (a1_1 : Int) < ((t183.length : Int) : Int) := of_decide_eq_true asmB; obtain ⟨go43, co43, eo43, gb43, gl43, cl43, HG43⟩ := Kd.R_form HO185.out (by omega); (first | cases eo43 | (injection eo43 with ea_ en_ ec_; (first | subst ea_ | (injection ea_ with ea_; subst ea_)); subst ec_; clear en_)); have GB43 := Aside0.mk gb43; have GG43 := Aside0.mk HG43; clear gb43 gl43 HG43; obtain ⟨ce43, hcl43, hM43, hcc43, hfr43⟩ := Kd.R_elem HO185.out z26 (a1_1 : Int) p43 q43; obtain rfl := k26_openM hM43; have hx43_0 : w45.cell? ⟨go43, (a1_1 : Int).toNat * 5, none⟩ = some (.int .i64 ((rd_T26 t183 a1_1).f0)) := hcc43 0 _ rfl; have hx43_1 : w45.cell? ⟨go43, (a1_1 : Int).toNat * 5 + 1, none⟩ = some (.int .i64 ((rd_T26 t183 a1_1).f1)) := hcc43 1 _ rfl; have hx43_2 : w45.cell? ⟨go43, (a1_1 : Int).toNat * 5 + 2, none⟩ = some (.int .i64 ((rd_T26 t183 a1_1).f2)) := hcc43 2 _ rfl; have hx43_3 : w45.cell? ⟨go43, (a1_1 : Int).toNat * 5 + 3, none⟩ = some (.int .i64 ((rd_T26 t183 a1_1).f3)) := hcc43 3 _ rfl; have hx43_4 : w45.cell? ⟨go43, (a1_1 : Int).toNat * 5 + 4, none⟩ = some (.int .i64 ((rd_T26 t183 a1_1).f4)) := hcc43 4 _ rfl; have hf43_0 : w45.frozen? ⟨go43, (a1_1 : Int).toNat * 5, none⟩ = false := hfr43 0; have hf43_1 : w45.frozen? ⟨go43, (a1_1 : Int).toNat * 5 + 1, none⟩ = false := hfr43 1; have hf43_2 : w45.frozen? ⟨go43, (a1_1 : Int).toNat * 5 + 2, none⟩ = false := hfr43 2; have hf43_3 : w45.frozen? ⟨go43, (a1_1 : Int).toNat * 5 + 3, none⟩ = false := hfr43 3; have hf43_4 : w45.frozen? ⟨go43, (a1_1 : Int).toNat * 5 + 4, none⟩ = false := hfr43 4; clear hcl43 hcc43 hfr43 hM43; replace p43 := eq_true p43; replace q43 := eq_true q43; have HX47 := Aside0.mk (show Kd.R k26 26 w45 w.heap.size (fun _ => True) (.slice (some ⟨go43, 0, none⟩) t183.length co43) t183 from (upR HO185.out)); obtain ⟨ce47, hcl47, hM47, hcc47, hfr47⟩ := Kd.R_elem HX47.out z26 (a1_1 : Int) (of_decide_eq_true asmB) (by have h_ : (a1_1 : Int) < ((t183.length : Int) : Int) := of_decide_eq_true asmB; first | exact h_ | (have e_ := (Kd.R_reads' HO185.out).1; omega) | simpa using h_); obtain rfl := k26_openM hM47; have HP47 := Kd.R_seg HX47.out (a1_1 : Int) (of_decide_eq_true asmB) (by have h_ : (a1_1 : Int) < ((t183.length : Int) : Int) := of_decide_eq_true asmB; first | exact h_ | (have e_ := (Kd.R_reads' HO185.out).1; omega) | simpa using h_) (seg := [.int .i64 a1_7, .int .i64 a1_8, .int .i64 a1_9, .int .i64 a1_10, .int .i64 a1_11]) (j := 0) hcl47 hcc47 (show 5 ≤ 5 from by decide) (x' := (⟨a1_7, a1_8, a1_9, a1_10, a1_11⟩ : S26)) (k26_mkM _ _ _ (⟨a1_7, a1_8, a1_9, a1_10, a1_11⟩ : S26) ) (fun _ hk => hk); have hx47_0 := hcc47 0 _ rfl; (try simp only [show (k26).sz = 5 from rfl, Nat.mul_one, Nat.add_zero] at hx47_0); have hf47_0 := hfr47 0; (try simp only [show (k26).sz = 5 from rfl, Nat.mul_one, Nat.add_zero] at hf47_0); have hx47_1 := hcc47 1 _ rfl; (try simp only [show (k26).sz = 5 from rfl, Nat.mul_one, Nat.add_zero] at hx47_1); have hf47_1 := hfr47 1; (try simp only [show (k26).sz = 5 from rfl, Nat.mul_one, Nat.add_zero] at hf47_1); have hx47_2 := hcc47 2 _ rfl; (try simp only [show (k26).sz = 5 from rfl, Nat.mul_one, Nat.add_zero] at hx47_2); have hf47_2 := hfr47 2; (try simp only [show (k26).sz = 5 from rfl, Nat.mul_one, Nat.add_zero] at hf47_2); have hx47_3 := hcc47 3 _ rfl; (try simp only [show (k26).sz = 5 from rfl, Nat.mul_one, Nat.add_zero] at hx47_3); have hf47_3 := hfr47 3; (try simp only [show (k26).sz = 5 from rfl, Nat.mul_one, Nat.add_zero] at hf47_3); have hx47_4 := hcc47 4 _ rfl; (try simp only [show (k26).sz = 5 from rfl, Nat.mul_one, Nat.add_zero] at hx47_4); have hf47_4 := hfr47 4; (try simp only [show (k26).sz = 5 from rfl, Nat.mul_one, Nat.add_zero] at hf47_4); clear hcl47 hcc47 hfr47 hM47) | ((with_reducible refine gate_store (t := 26) (p := 60) rfl ?_); refine store_event (t := 26) (p := 60) (v := ?vo_w48) (w1 := (((((w45.setCell ⟨go43, (a1_1 : Int).toNat * 5, none⟩ (.int .i64 a1_7)).setCell ⟨go43, (a1_1 : Int).toNat * 5 + 1, none⟩ (.int .i64 a1_8)).setCell ⟨go43, (a1_1 : Int).toNat * 5 + 2, none⟩ (.int .i64 a1_9)).setCell ⟨go43, (a1_1 : Int).toNat * 5 + 3, none⟩ (.int .i64 a1_10)).setCell ⟨go43, (a1_1 : Int).toNat * 5 + 4, none⟩ (.int .i64 a1_11))) ?hg ?ho ?hn ?hr ?_; (case ho => rfl); (case hg => rfl); (case hn => rfl); (case hr => first | (go_simp; done) | (go_simp; rfl)); intro w48 hw; have hg : w45.grownBy w48 (some go43) := (by rw [hw]; exact HP47.2); have hp_ : Kd.R k26 26 w48 w.heap.size (fun _ => True) (.slice (some ⟨go43, 0, none⟩) t183.length co43) y186 := (by rw [hw, Ny186.out]; exact HP47.1); clear HP47; replace BK168 := Aside0.mk (blk_grown (g := gb168) (o := .cells #[.int .i64 a1_0, .int .i64 a1_1, .int .i64 a1_2, .int .i64 a1_3, .int .i64 a1_4, .int .i64 a1_5, .int .i64 a1_6, .int .i64 a1_7, .int .i64 a1_8, .int .i64 a1_9, .int .i64 a1_10, .int .i64 a1_11] 28 (0, 0)) (upK BK168.out) hg (Kd.R_ne HO185.out BK168.out (by decide))); replace HO185 := Aside0.mk (hp_); replace HB := Aside0.mk ((by rw [hw]; exact below_set (below_set (below_set (below_set (below_set (HB.out) GB43.out) GB43.out) GB43.out) GB43.out) GB43.out : Below w.heap.size w w48)); clear hg hw hp_))
         go_ret2
         exact ⟨_, eB, upR HO185.out, (bW HB)⟩
        ·rw [if_neg c42] at H
         exact absurd H (by simp)
       ·rw [if_neg c41] at H
        exact absurd H (by simp)
 ·replace H := iF (by decide) H
  simp only [Option.some.injEq, Prod.mk.injEq] at H
  obtain ⟨rfl, rfl⟩ := H
  go_enter Try.func67, Try.ntmps67
  go_wp2_with (first | ((with_reducible refine gD 3 ?_); (try (refine gate_guard (by rfl) ?_; dsimp only)); refine bxE 3 28 #[.int .i64 a1_0, .int .i64 a1_1, .int .i64 a1_2, .int .i64 a1_3, .int .i64 a1_4, .int .i64 a1_5, .int .i64 a1_6, .int .i64 a1_7, .int .i64 a1_8, .int .i64 a1_9, .int .i64 a1_10, .int .i64 a1_11] fun gb168 w49 hg hbox hb => ?_; have BK168 := Aside0.mk hbox; have GE168 := gB HB hg; replace HB := uB HB hb; clear hb hbox hg; have ⟨hcz50_0, hcz50_1, hcz50_2, hcz50_3, hcz50_4, hcz50_5, hcz50_6, hcz50_7, hcz50_8, hcz50_9, hcz50_10, hcz50_11, hfz50_0⟩ := cz12 BK168) | ((with_reducible refine gC 61 ?_); refine lA (some 8) Try.func61 (impl_isEdit.calls a1_0 a1_1 a1_2 a1_3 a1_4 a1_5 a1_6 a1_7 a1_8 a1_9 a1_10 a1_11 false _ A3.out) ?_; intro w51 hb; replace BK168 := uK BK168 hb; replace HB := uB HB hb; (try clear hb); (try clear hk)))
  go_ret2
  exact ⟨_, eB, by first | exact Kd.R_nil _ _ _ _ _ | exact Kd.N_nil _ _ _ _ _ | exact Kd.V_nil _ _ _ _ _ | exact Kd.Q_nil _ _ _ _ _ | exact Kd.S_nil _ _ _ _ _, (bW HB)⟩

end Go.Proofs.Ytinelmmnajelaaa.QFnDiffs
