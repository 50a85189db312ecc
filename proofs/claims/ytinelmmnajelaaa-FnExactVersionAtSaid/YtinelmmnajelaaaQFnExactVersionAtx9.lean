/- Contracts of Go functions that FnExactVersionAt reaches: the call computes what the plain function says. No condition. -/
import Derived.Test.YtinelmmnajelaaaQFnExactVersionAtx0
import Derived.Test.YtinelmmnajelaaaQFnExactVersionAtx1
import Derived.Test.YtinelmmnajelaaaQFnExactVersionAtx7
import Derived.Test.YtinelmmnajelaaaQFnExactVersionAtx8
namespace Go.Proofs.Ytinelmmnajelaaa.QFnExactVersionAt
open Go.RowKit Go.Proofs.YtinelmmnajelaaaW.PrintWords Go.Proofs.YtinelmmnajelaaaW.PrintLast Go.Proofs.YtinelmmnajelaaaW.PrintMore
attribute [local go_sem] max2_int min2_int max_two min_two max_three min_three max_four min_four   -- for this text's walks alone
set_option linter.unusedVariables false
set_option linter.unusedSimpArgs false

attribute [local go_sem high] eqA26
/-! ### impl_apply: function 67 -/
mutual
def impl_apply.j0 : Nat → List (S26) → Bool → Int → Int → Int → Int → Int → Int → Int → Int → Int → Int → Int → Int → Option ((List (S26)) × Bool)
  | 0, _, _, _, _, _, _, _, _, _, _, _, _, _, _ => none
  | k + 1, x0, x22, x278000, x278001, x278002, x278003, x278004, x278005, x278006, x278007, x278008, x278009, x278010, x278011 => if x22 = true then (some (([] : List (S26)), false)) else ((impl_Leg_91.f x0).bind fun t279 => ((impl_Leg_90.f t279 x278001 (([(⟨x278007, x278008, x278009, x278010, x278011⟩ : S26)] : List (S26)))).bind fun t285 => (some (t285, true))))
def impl_apply.j1 : Nat → List (S26) → Bool → Int → Int → Int → Int → Int → Int → Int → Int → Int → Int → Int → Int → Option ((List (S26)) × Bool)
  | 0, _, _, _, _, _, _, _, _, _, _, _, _, _, _ => none
  | k + 1, x0, x45, x278000, x278001, x278002, x278003, x278004, x278005, x278006, x278007, x278008, x278009, x278010, x278011 => if x45 = true then (some (([] : List (S26)), false)) else (if x278000 = 2 then ((impl_leaving.f x0 x278001).bind fun t289 => (some (t289, true))) else ((impl_Leg_91.f x0).bind fun t292 => (if 0 ≤ x278001 then (if x278001 < (t292.length : Int) then (some ((t292.set (x278001 : Int).toNat (⟨x278007, x278008, x278009, x278010, x278011⟩ : S26)), true)) else (none)) else (none))))
end
def impl_apply.f (k : Nat) (l0 : List (S26)) (a1_0 : Int) (a1_1 : Int) (a1_2 : Int) (a1_3 : Int) (a1_4 : Int) (a1_5 : Int) (a1_6 : Int) (a1_7 : Int) (a1_8 : Int) (a1_9 : Int) (a1_10 : Int) (a1_11 : Int) : Option ((List (S26)) × Bool) := (impl_isEdit.f a1_0 a1_1 a1_2 a1_3 a1_4 a1_5 a1_6 a1_7 a1_8 a1_9 a1_10 a1_11).bind fun t278 => (if t278 = true then (if a1_0 = 1 then (if a1_1 > (l0.length : Int) then (impl_apply.j0 k l0 true a1_0 a1_1 a1_2 a1_3 a1_4 a1_5 a1_6 a1_7 a1_8 a1_9 a1_10 a1_11) else (impl_apply.j0 k l0 ((l0.length : Int) == 12) a1_0 a1_1 a1_2 a1_3 a1_4 a1_5 a1_6 a1_7 a1_8 a1_9 a1_10 a1_11)) else (if a1_1 ≥ (l0.length : Int) then (impl_apply.j1 k l0 true a1_0 a1_1 a1_2 a1_3 a1_4 a1_5 a1_6 a1_7 a1_8 a1_9 a1_10 a1_11) else (if 0 ≤ a1_1 then (if a1_1 < (l0.length : Int) then (impl_apply.j1 k l0 (!(((rd_T26 l0 a1_1).f0) == a1_2) || (!(((rd_T26 l0 a1_1).f1) == a1_3) || (!(((rd_T26 l0 a1_1).f2) == a1_4) || (!(((rd_T26 l0 a1_1).f3) == a1_5) || (!(((rd_T26 l0 a1_1).f4) == a1_6)))))) a1_0 a1_1 a1_2 a1_3 a1_4 a1_5 a1_6 a1_7 a1_8 a1_9 a1_10 a1_11) else (none)) else (none)))) else (some (([] : List (S26)), false)))
theorem impl_apply.mono_l : ∀ k, (∀ y0 y1 y2 y3 y4 y5 y6 y7 y8 y9 y10 y11 y12 y13, LeO (impl_apply.j0 k y0 y1 y2 y3 y4 y5 y6 y7 y8 y9 y10 y11 y12 y13) (impl_apply.j0 (k + 1) y0 y1 y2 y3 y4 y5 y6 y7 y8 y9 y10 y11 y12 y13)) ∧ (∀ y0 y1 y2 y3 y4 y5 y6 y7 y8 y9 y10 y11 y12 y13, LeO (impl_apply.j1 k y0 y1 y2 y3 y4 y5 y6 y7 y8 y9 y10 y11 y12 y13) (impl_apply.j1 (k + 1) y0 y1 y2 y3 y4 y5 y6 y7 y8 y9 y10 y11 y12 y13))
  | 0 => ⟨fun _ _ _ _ _ _ _ _ _ _ _ _ _ _ r h => by simp [impl_apply.j0] at h, fun _ _ _ _ _ _ _ _ _ _ _ _ _ _ r h => by simp [impl_apply.j1] at h⟩
  | k + 1 => by
    obtain ⟨ih0, ih1⟩ := impl_apply.mono_l k
    refine ⟨?_, ?_⟩
    · intro y0 y1 y2 y3 y4 y5 y6 y7 y8 y9 y10 y11 y12 y13
      unfold impl_apply.j0
      repeat' first
      | (with_reducible exact ih0 _ _ _ _ _ _ _ _ _ _ _ _ _ _)
      | (with_reducible exact ih1 _ _ _ _ _ _ _ _ _ _ _ _ _ _)
      | (with_reducible exact LeO.refl _)
      | (with_reducible exact LeO.none _)
      | (with_reducible refine LeO.ite ?_ ?_)
      | (with_reducible refine LeO.bind ?_ (fun _ => ?_))
      | exact ih0 _ _ _ _ _ _ _ _ _ _ _ _ _ _
      | exact ih1 _ _ _ _ _ _ _ _ _ _ _ _ _ _
      | exact LeO.none _
      | refine LeO.ite ?_ ?_
      | refine LeO.bind ?_ (fun _ => ?_)
    · intro y0 y1 y2 y3 y4 y5 y6 y7 y8 y9 y10 y11 y12 y13
      unfold impl_apply.j1
      repeat' first
      | (with_reducible exact ih0 _ _ _ _ _ _ _ _ _ _ _ _ _ _)
      | (with_reducible exact ih1 _ _ _ _ _ _ _ _ _ _ _ _ _ _)
      | (with_reducible exact LeO.refl _)
      | (with_reducible exact LeO.none _)
      | (with_reducible refine LeO.ite ?_ ?_)
      | (with_reducible refine LeO.bind ?_ (fun _ => ?_))
      | exact ih0 _ _ _ _ _ _ _ _ _ _ _ _ _ _
      | exact ih1 _ _ _ _ _ _ _ _ _ _ _ _ _ _
      | exact LeO.none _
      | refine LeO.ite ?_ ?_
      | refine LeO.bind ?_ (fun _ => ?_)
theorem impl_apply.mono : ∀ a0 a1 a2 a3 a4 a5 a6 a7 a8 a9 a10 a11 a12 k, LeO (impl_apply.f k a0 a1 a2 a3 a4 a5 a6 a7 a8 a9 a10 a11 a12) (impl_apply.f (k + 1) a0 a1 a2 a3 a4 a5 a6 a7 a8 a9 a10 a11 a12) := by
  intro a0 a1 a2 a3 a4 a5 a6 a7 a8 a9 a10 a11 a12 k
  obtain ⟨ih0, ih1⟩ := impl_apply.mono_l k
  unfold impl_apply.f
  repeat' first
      | (with_reducible exact ih0 _ _ _ _ _ _ _ _ _ _ _ _ _ _)
      | (with_reducible exact ih1 _ _ _ _ _ _ _ _ _ _ _ _ _ _)
      | (with_reducible exact LeO.refl _)
      | (with_reducible exact LeO.none _)
      | (with_reducible refine LeO.ite ?_ ?_)
      | (with_reducible refine LeO.bind ?_ (fun _ => ?_))
      | exact ih0 _ _ _ _ _ _ _ _ _ _ _ _ _ _
      | exact ih1 _ _ _ _ _ _ _ _ _ _ _ _ _ _
      | exact LeO.none _
      | refine LeO.ite ?_ ?_
      | refine LeO.bind ?_ (fun _ => ?_)
def impl_apply.T6 : Bool × List (List Nat × List Nat) := (true, [([], []), ([0], [0]), ([], []), ([2], [2]), ([], []), ([4], [4]), ([5], [5]), ([1, 3, 6, 1], [1, 3, 6]), ([7, 7, 0, 1, 2, 3, 4, 5, 6, 7], [7]), ([8, 0, 1, 2, 3, 4, 5, 6, 7, 8], [])])
def impl_apply.B6 : List Nat := [0, 1, 0, 4, 0, 16, 48, 127, 255, 511]
theorem impl_apply.tab6 : rtab .any (opsOf Try.f67 6) = impl_apply.T6 := by kernel_rfl
theorem impl_apply.bits6 : waitsOk impl_apply.T6.2 impl_apply.B6 = true := by kernel_rfl
def impl_apply.T7 : Bool × List (List Nat × List Nat) := (true, [([], []), ([0], [0]), ([], []), ([2], [2]), ([1, 3], [1, 3]), ([4], [4]), ([5], [5]), ([5], [5]), ([7, 5], [5, 7]), ([6, 8, 5], [5, 6, 8]), ([9, 5], [5, 9]), ([5], [5]), ([11, 5], [5, 11]), ([10, 12, 5], [5, 10, 12]), ([5, 13], [5, 13])])
def impl_apply.B7 : List Nat := [0, 1, 0, 4, 15, 31, 63, 63, 191, 511, 1023, 63, 2111, 8191, 16383]
theorem impl_apply.tab7 : rtab .any (opsOf Try.f67 7) = impl_apply.T7 := by kernel_rfl
theorem impl_apply.bits7 : waitsOk impl_apply.T7.2 impl_apply.B7 = true := by kernel_rfl
set_option maxHeartbeats 8000000 in
set_option maxRecDepth 100000 in
theorem impl_apply.calls (k : Nat) (A0 : Option Addr) (c0 : Nat) (l0 : List (S26)) (a1_0 : Int) (a1_1 : Int) (a1_2 : Int) (a1_3 : Int) (a1_4 : Int) (a1_5 : Int) (a1_6 : Int) (a1_7 : Int) (a1_8 : Int) (a1_9 : Int) (a1_10 : Int) (a1_11 : Int) (r1 : List (S26)) (r2 : Bool) (w : World) (hr0 : Kd.C k26 w A0 l0.length l0) (hc0 : l0.length ≤ c0) (h : impl_apply.f k l0 a1_0 a1_1 a1_2 a1_3 a1_4 a1_5 a1_6 a1_7 a1_8 a1_9 a1_10 a1_11 = some (r1, r2)) :
    Calls Try.prog 67 #[.slice A0 l0.length c0, .agg #[.int .i64 a1_0, .int .i64 a1_1, .int .i64 a1_2, .int .i64 a1_3, .int .i64 a1_4, .int .i64 a1_5, .int .i64 a1_6, .int .i64 a1_7, .int .i64 a1_8, .int .i64 a1_9, .int .i64 a1_10, .int .i64 a1_11]] w fun e w' => ∃ v0_ : Value, e = .returned (.tuple #[v0_, .bool r2]) ∧ Kd.R k26 26 w' w.heap.size (fun _ => True) v0_ r1 ∧ Below w.heap.size w w' := by
  have hu28 := Try.underlying28
  have hu26 := Try.underlying26
  have HR0 := Aside0.mk hr0
  have HC0 := Aside0.mk hc0
  clear hr0 hc0
  have HB := Aside0.mk (Below.refl w.heap.size w)
  have H : ((impl_isEdit.f a1_0 a1_1 a1_2 a1_3 a1_4 a1_5 a1_6 a1_7 a1_8 a1_9 a1_10 a1_11).bind fun t278 => (if t278 = true then (if a1_0 = 1 then (if a1_1 > (l0.length : Int) then (impl_apply.j0 k l0 true a1_0 a1_1 a1_2 a1_3 a1_4 a1_5 a1_6 a1_7 a1_8 a1_9 a1_10 a1_11) else (impl_apply.j0 k l0 ((l0.length : Int) == 12) a1_0 a1_1 a1_2 a1_3 a1_4 a1_5 a1_6 a1_7 a1_8 a1_9 a1_10 a1_11)) else (if a1_1 ≥ (l0.length : Int) then (impl_apply.j1 k l0 true a1_0 a1_1 a1_2 a1_3 a1_4 a1_5 a1_6 a1_7 a1_8 a1_9 a1_10 a1_11) else (if 0 ≤ a1_1 then (if a1_1 < (l0.length : Int) then (impl_apply.j1 k l0 (!(((rd_T26 l0 a1_1).f0) == a1_2) || (!(((rd_T26 l0 a1_1).f1) == a1_3) || (!(((rd_T26 l0 a1_1).f2) == a1_4) || (!(((rd_T26 l0 a1_1).f3) == a1_5) || (!(((rd_T26 l0 a1_1).f4) == a1_6)))))) a1_0 a1_1 a1_2 a1_3 a1_4 a1_5 a1_6 a1_7 a1_8 a1_9 a1_10 a1_11) else (none)) else (none)))) else (some (([] : List (S26)), false)))) = some (r1, r2) := h
  clear h
  replace H := Option.bind_eq_some_iff.mp H
  obtain ⟨t278, A30, H⟩ := H
  replace H : (if t278 = true then (if a1_0 = 1 then (if a1_1 > (l0.length : Int) then (impl_apply.j0 k l0 true a1_0 a1_1 a1_2 a1_3 a1_4 a1_5 a1_6 a1_7 a1_8 a1_9 a1_10 a1_11) else (impl_apply.j0 k l0 ((l0.length : Int) == 12) a1_0 a1_1 a1_2 a1_3 a1_4 a1_5 a1_6 a1_7 a1_8 a1_9 a1_10 a1_11)) else (if a1_1 ≥ (l0.length : Int) then (impl_apply.j1 k l0 true a1_0 a1_1 a1_2 a1_3 a1_4 a1_5 a1_6 a1_7 a1_8 a1_9 a1_10 a1_11) else (if 0 ≤ a1_1 then (if a1_1 < (l0.length : Int) then (impl_apply.j1 k l0 (!(((rd_T26 l0 a1_1).f0) == a1_2) || (!(((rd_T26 l0 a1_1).f1) == a1_3) || (!(((rd_T26 l0 a1_1).f2) == a1_4) || (!(((rd_T26 l0 a1_1).f3) == a1_5) || (!(((rd_T26 l0 a1_1).f4) == a1_6)))))) a1_0 a1_1 a1_2 a1_3 a1_4 a1_5 a1_6 a1_7 a1_8 a1_9 a1_10 a1_11) else (none)) else (none)))) else (some (([] : List (S26)), false))) = some (r1, r2) := H
  have A3 := Aside0.mk A30
  clear A30
  by_cases c4 : t278 = true
  · subst c4
    have H1 : (if a1_0 = 1 then (if a1_1 > (l0.length : Int) then (impl_apply.j0 k l0 true a1_0 a1_1 a1_2 a1_3 a1_4 a1_5 a1_6 a1_7 a1_8 a1_9 a1_10 a1_11) else (impl_apply.j0 k l0 ((l0.length : Int) == 12) a1_0 a1_1 a1_2 a1_3 a1_4 a1_5 a1_6 a1_7 a1_8 a1_9 a1_10 a1_11)) else (if a1_1 ≥ (l0.length : Int) then (impl_apply.j1 k l0 true a1_0 a1_1 a1_2 a1_3 a1_4 a1_5 a1_6 a1_7 a1_8 a1_9 a1_10 a1_11) else (if 0 ≤ a1_1 then (if a1_1 < (l0.length : Int) then (impl_apply.j1 k l0 (!(((rd_T26 l0 a1_1).f0) == a1_2) || (!(((rd_T26 l0 a1_1).f1) == a1_3) || (!(((rd_T26 l0 a1_1).f2) == a1_4) || (!(((rd_T26 l0 a1_1).f3) == a1_5) || (!(((rd_T26 l0 a1_1).f4) == a1_6)))))) a1_0 a1_1 a1_2 a1_3 a1_4 a1_5 a1_6 a1_7 a1_8 a1_9 a1_10 a1_11) else (none)) else (none)))) = some (r1, r2) := by rw [if_pos rfl] at H; exact H
    clear H
    have H := H1
    clear H1
    by_cases c5 : a1_0 = 1
    · rw [if_pos c5] at H
      have c5b0 : (a1_0 == 1) = true := beq_iff_eq.mpr c5
      have c5b1 : (a1_0 != 1) = false := bne_eq_false_iff_eq.mpr c5
      clear c5
      have HC6 := Aside0.mk H
      clear H
      go_enter Try.func67, Try.ntmps67
      go_upto_region 4 with (first | ((with_reducible refine gate_dst (N := 3) rfl ?_); (try (refine gate_guard (by rfl) ?_; dsimp only)); refine box_event ?hg (N := 3) ?hd (cs := #[.int .i64 a1_0, .int .i64 a1_1, .int .i64 a1_2, .int .i64 a1_3, .int .i64 a1_4, .int .i64 a1_5, .int .i64 a1_6, .int .i64 a1_7, .int .i64 a1_8, .int .i64 a1_9, .int .i64 a1_10, .int .i64 a1_11]) (t := 28) ?hr ?_; (case hd => rfl); (case hg => rfl); (case hr => first | (go_simp; done) | (go_simp; rfl)); intro gb277 hg w7 hbox hb; have n0_ := Aside0.mk (below_step (upB HB.out) hb); have n1_ := Aside0.mk (hbox); have n2_ := Aside0.mk ((by rw [hg]; exact (below_size (upB HB.out)) : w.heap.size ≤ gb277)); have n3_ := Aside0.mk ((by rw [hg]; exact (below_size (upB HB.out)) : w.heap.size ≤ gb277)); clear HB; have HB := n0_; have BK277 := n1_; have GW277 := n2_; have GE277 := n3_; clear n0_ n1_ n2_ n3_; clear hb hbox hg; have hcz8_0 := ci BK277.out 0 a1_0 rfl; have hcz8_1 := ci BK277.out 1 a1_1 rfl; have hcz8_2 := ci BK277.out 2 a1_2 rfl; have hcz8_3 := ci BK277.out 3 a1_3 rfl; have hcz8_4 := ci BK277.out 4 a1_4 rfl; have hcz8_5 := ci BK277.out 5 a1_5 rfl; have hcz8_6 := ci BK277.out 6 a1_6 rfl; have hcz8_7 := ci BK277.out 7 a1_7 rfl; have hcz8_8 := ci BK277.out 8 a1_8 rfl; have hcz8_9 := ci BK277.out 9 a1_9 rfl; have hcz8_10 := ci BK277.out 10 a1_10 rfl; have hcz8_11 := ci BK277.out 11 a1_11 rfl; have hfz8_0 := fun j_ : Nat => blk_frozen BK277.out j_) | ((with_reducible refine gate_callee (f := 61) rfl ?_); refine goesL_ (some 8) rfl rfl Try.func61 (by kernel_rfl) rfl #[.agg #[.int .i64 a1_0, .int .i64 a1_1, .int .i64 a1_2, .int .i64 a1_3, .int .i64 a1_4, .int .i64 a1_5, .int .i64 a1_6, .int .i64 a1_7, .int .i64 a1_8, .int .i64 a1_9, .int .i64 a1_10, .int .i64 a1_11]] rfl argsB ?_; (with_reducible refine (impl_isEdit.calls a1_0 a1_1 a1_2 a1_3 a1_4 a1_5 a1_6 a1_7 a1_8 a1_9 a1_10 a1_11 true _ A3.out).mono ?_); rintro e w9 ⟨rfl, hb⟩; refine ⟨_, rfl, ?_⟩; have n0_ := Aside0.mk (blk_below (g := gb277) (o := .cells #[.int .i64 a1_0, .int .i64 a1_1, .int .i64 a1_2, .int .i64 a1_3, .int .i64 a1_4, .int .i64 a1_5, .int .i64 a1_6, .int .i64 a1_7, .int .i64 a1_8, .int .i64 a1_9, .int .i64 a1_10, .int .i64 a1_11] 28 (0, 0)) (upK BK277.out) hb); have n1_ := Aside0.mk (below_step (upB1 HB.out GE277.out) hb); clear BK277; clear HB; have BK277 := n0_; have HB := n1_; clear n0_ n1_; (try clear hb); (try clear hk); have hcz10_0 := ci BK277.out 0 a1_0 rfl; have hcz10_1 := ci BK277.out 1 a1_1 rfl; have hcz10_2 := ci BK277.out 2 a1_2 rfl; have hcz10_3 := ci BK277.out 3 a1_3 rfl; have hcz10_4 := ci BK277.out 4 a1_4 rfl; have hcz10_5 := ci BK277.out 5 a1_5 rfl; have hcz10_6 := ci BK277.out 6 a1_6 rfl; have hcz10_7 := ci BK277.out 7 a1_7 rfl; have hcz10_8 := ci BK277.out 8 a1_8 rfl; have hcz10_9 := ci BK277.out 9 a1_9 rfl; have hcz10_10 := ci BK277.out 10 a1_10 rfl; have hcz10_11 := ci BK277.out 11 a1_11 rfl; have hfz10_0 := fun j_ : Nat => blk_frozen BK277.out j_))
      (try simp only [Act.put, List.setIfInBounds_toArray, List.set_cons_zero, List.set_cons_succ])
      go_cut [22] (fun v22 wc => ∃ (kq : Nat) (x22_5 : Bool), v22 = .bool x22_5 ∧ Aside0 (impl_apply.j0 kq l0 x22_5 a1_0 a1_1 a1_2 a1_3 a1_4 a1_5 a1_6 a1_7 a1_8 a1_9 a1_10 a1_11 = some (r1, r2)) ∧ Aside0 (kq ≤ k) ∧ Aside0 (wc.heap[gb277]? = some (.cells #[.int .i64 a1_0, .int .i64 a1_1, .int .i64 a1_2, .int .i64 a1_3, .int .i64 a1_4, .int .i64 a1_5, .int .i64 a1_6, .int .i64 a1_7, .int .i64 a1_8, .int .i64 a1_9, .int .i64 a1_10, .int .i64 a1_11] 28 (0, 0))) ∧ Aside0 (Below w.heap.size w wc))
      case first =>
        have H := HC6.out
        clear HC6
        by_cases c11 : a1_1 > (l0.length : Int)
        · rw [if_pos c11] at H
          have c11b0 : decide ((l0.length : Int) < a1_1) = true := decide_eq_true c11
          clear c11
          (first | rw [c11b0] | (simp only [i64_w, i32_w]; rw [c11b0]) | skip)
          have H' := Aside0.mk H
          clear H
          have hcz12_0 := ci BK277.out 0 a1_0 rfl
          have hcz12_1 := ci BK277.out 1 a1_1 rfl
          have hcz12_2 := ci BK277.out 2 a1_2 rfl
          have hcz12_3 := ci BK277.out 3 a1_3 rfl
          have hcz12_4 := ci BK277.out 4 a1_4 rfl
          have hcz12_5 := ci BK277.out 5 a1_5 rfl
          have hcz12_6 := ci BK277.out 6 a1_6 rfl
          have hcz12_7 := ci BK277.out 7 a1_7 rfl
          have hcz12_8 := ci BK277.out 8 a1_8 rfl
          have hcz12_9 := ci BK277.out 9 a1_9 rfl
          have hcz12_10 := ci BK277.out 10 a1_10 rfl
          have hcz12_11 := ci BK277.out 11 a1_11 rfl
          have hfz12_0 := fun j_ : Nat => blk_frozen BK277.out j_
          go_wp2
          go_meet
          case rel => exact ⟨_, (true), (by first | rfl | (simp; done) | (simp [*]; done)), H', ⟨by first | omega | exact Nat.le_refl _⟩, ⟨by (with_reducible repeat (first | refine blk_drewN ?_ _ | refine blk_drew ?_ | refine blk_alloc ?_ _)); exact BK277.out⟩, ⟨(upB1 HB.out GE277.out)⟩⟩
        · rw [if_neg c11] at H
          have c11b0 : decide ((l0.length : Int) < a1_1) = false := decide_eq_false c11
          clear c11
          (first | rw [c11b0] | (simp only [i64_w, i32_w]; rw [c11b0]) | skip)
          have H' := Aside0.mk H
          clear H
          have hcz13_0 := ci BK277.out 0 a1_0 rfl
          have hcz13_1 := ci BK277.out 1 a1_1 rfl
          have hcz13_2 := ci BK277.out 2 a1_2 rfl
          have hcz13_3 := ci BK277.out 3 a1_3 rfl
          have hcz13_4 := ci BK277.out 4 a1_4 rfl
          have hcz13_5 := ci BK277.out 5 a1_5 rfl
          have hcz13_6 := ci BK277.out 6 a1_6 rfl
          have hcz13_7 := ci BK277.out 7 a1_7 rfl
          have hcz13_8 := ci BK277.out 8 a1_8 rfl
          have hcz13_9 := ci BK277.out 9 a1_9 rfl
          have hcz13_10 := ci BK277.out 10 a1_10 rfl
          have hcz13_11 := ci BK277.out 11 a1_11 rfl
          have hfz13_0 := fun j_ : Nat => blk_frozen BK277.out j_
          go_wp2
          go_meet
          case rel => exact ⟨_, (((l0.length : Int) == 12)), (by first | rfl | (simp; done) | (simp [*]; done)), H', ⟨by first | omega | exact Nat.le_refl _⟩, ⟨by (with_reducible repeat (first | refine blk_drewN ?_ _ | refine blk_drew ?_ | refine blk_alloc ?_ _)); exact BK277.out⟩, ⟨(upB1 HB.out GE277.out)⟩⟩
      case rest =>
        clear HC6
        try clear c4
        try clear c5
        try clear c5b0
        try clear c5b1
        try clear c11
        try clear c11b0
        try clear hcz10_0
        try clear hcz10_1
        try clear hcz10_10
        try clear hcz10_11
        try clear hcz10_2
        try clear hcz10_3
        try clear hcz10_4
        try clear hcz10_5
        try clear hcz10_6
        try clear hcz10_7
        try clear hcz10_8
        try clear hcz10_9
        try clear hcz12_0
        try clear hcz12_1
        try clear hcz12_10
        try clear hcz12_11
        try clear hcz12_2
        try clear hcz12_3
        try clear hcz12_4
        try clear hcz12_5
        try clear hcz12_6
        try clear hcz12_7
        try clear hcz12_8
        try clear hcz12_9
        try clear hcz13_0
        try clear hcz13_1
        try clear hcz13_10
        try clear hcz13_11
        try clear hcz13_2
        try clear hcz13_3
        try clear hcz13_4
        try clear hcz13_5
        try clear hcz13_6
        try clear hcz13_7
        try clear hcz13_8
        try clear hcz13_9
        try clear hcz8_0
        try clear hcz8_1
        try clear hcz8_10
        try clear hcz8_11
        try clear hcz8_2
        try clear hcz8_3
        try clear hcz8_4
        try clear hcz8_5
        try clear hcz8_6
        try clear hcz8_7
        try clear hcz8_8
        try clear hcz8_9
        try clear hfz10_0
        try clear hfz10_1
        try clear hfz10_10
        try clear hfz10_11
        try clear hfz10_2
        try clear hfz10_3
        try clear hfz10_4
        try clear hfz10_5
        try clear hfz10_6
        try clear hfz10_7
        try clear hfz10_8
        try clear hfz10_9
        try clear hfz12_0
        try clear hfz12_1
        try clear hfz12_10
        try clear hfz12_11
        try clear hfz12_2
        try clear hfz12_3
        try clear hfz12_4
        try clear hfz12_5
        try clear hfz12_6
        try clear hfz12_7
        try clear hfz12_8
        try clear hfz12_9
        try clear hfz13_0
        try clear hfz13_1
        try clear hfz13_10
        try clear hfz13_11
        try clear hfz13_2
        try clear hfz13_3
        try clear hfz13_4
        try clear hfz13_5
        try clear hfz13_6
        try clear hfz13_7
        try clear hfz13_8
        try clear hfz13_9
        try clear hfz8_0
        try clear hfz8_1
        try clear hfz8_10
        try clear hfz8_11
        try clear hfz8_2
        try clear hfz8_3
        try clear hfz8_4
        try clear hfz8_5
        try clear hfz8_6
        try clear hfz8_7
        try clear hfz8_8
        try clear hfz8_9
        obtain ⟨kq, x22_5, rfl, HA, HJ5, BK277, HB⟩ := hcut
        cases kq with
        | zero => exact absurd HA.out (by simp [impl_apply.j0])
        | succ kj5 =>
          have H := HA.out
          clear HA
          simp only [impl_apply.j0] at H
          by_cases c14 : x22_5 = true
          · subst c14
            have H1 : (some (([] : List (S26)), false)) = some (r1, r2) := by rw [if_pos rfl] at H; exact H
            clear H
            have H := H1
            clear H1
            simp only [Option.some.injEq, Prod.mk.injEq] at H
            obtain ⟨rfl, rfl⟩ := H
            go_wp2
            go_ret2
            exact ⟨_, by first | rfl | (simp [errW_none, errW_some] <;> rfl) | (simp [*, errW_none, errW_some] <;> rfl), by first | exact Kd.R_nil _ _ _ _ _ | exact Kd.N_nil _ _ _ _ _ | exact Kd.V_nil _ _ _ _ _ | exact Kd.Q_nil _ _ _ _ _ | exact Kd.S_nil _ _ _ _ _, (upB1 HB.out GE277.out)⟩
          · replace c14 := Bool.eq_false_iff.mpr c14
            subst c14
            have H1 : ((impl_Leg_91.f l0).bind fun t279 => ((impl_Leg_90.f t279 a1_1 (([(⟨a1_7, a1_8, a1_9, a1_10, a1_11⟩ : S26)] : List (S26)))).bind fun t285 => (some (t285, true)))) = some (r1, r2) := by rw [if_neg (show ¬ (false = true) by decide)] at H; exact H
            clear H
            have H := H1
            clear H1
            replace H := Option.bind_eq_some_iff.mp H
            obtain ⟨t279, A150, H⟩ := H
            replace H : ((impl_Leg_90.f t279 a1_1 (([(⟨a1_7, a1_8, a1_9, a1_10, a1_11⟩ : S26)] : List (S26)))).bind fun t285 => (some (t285, true))) = some (r1, r2) := H
            have A15 := Aside0.mk A150
            clear A150
            obtain ⟨y282, hy282⟩ : ∃ y_ : List (S26), y_ = (([(⟨a1_7, a1_8, a1_9, a1_10, a1_11⟩ : S26)] : List (S26))) := ⟨_, rfl⟩
            replace H : ((impl_Leg_90.f t279 a1_1 y282).bind fun t285 => (some (t285, true))) = some (r1, r2) := by first | (rw [hy282]; with_reducible exact H) | (have H2_ := (Option.bind_some _ _).symm.trans H; rw [hy282]; with_reducible exact H2_) | (have H2_ := (Option.bind_some _ _).symm.trans H; with_reducible exact H2_) | with_reducible exact H | (rw [hy282]; exact H) | exact H
            have Ny282 := Aside0.mk hy282
            clear hy282
            replace H := Option.bind_eq_some_iff.mp H
            obtain ⟨t285, A160, H⟩ := H
            replace H : (some (t285, true)) = some (r1, r2) := H
            have A16 := Aside0.mk A160
            clear A160
            simp only [Option.some.injEq, Prod.mk.injEq] at H
            obtain ⟨rfl, rfl⟩ := H
            try go_wp2
            have n0_ := Aside0.mk (blk_drew BK277.out)
            have n1_ := Aside0.mk (below_drew1 HB.out)
            clear BK277
            clear HB
            have BK277 := n0_
            have HB := n1_
            clear n0_ n1_
            refine start_ (n := 10) (S := fun w' => True) (ds := []) #[false, false, false, false, false, false, false, false, false, false] (by kernel_rfl) rfl rfl trivial (fun hHeld => ?_); refine with_tabW impl_apply.tab6 impl_apply.bits6 (fun HT_ HW_ => ?_)
            generalize wc.drew = w17 at BK277 HB hHeld ⊢
            refine pure_ (i := 0) (N := some 23) (v := ?_) (a' := ?_) #[true, false, false, false, false, false, false, false, false, false] rfl rfl (any_of HT_.out (by kernel_rfl)) (fun _ _ _ h => h) (Or.inl ⟨by rfl, ?_⟩) ?_ ?_
            rotate_left
            · intro w'
              go_simp
              with_reducible rfl
            rotate_left
            · simp only [Act.put, List.setIfInBounds_toArray, List.set_cons_zero, List.set_cons_succ, i64_w, i32_w]
              rfl
            refine pure_ (i := 2) (N := some 25) (v := ?_) (a' := ?_) #[true, false, true, false, false, false, false, false, false, false] rfl rfl (any_of HT_.out (by kernel_rfl)) (fun _ _ _ h => h) (Or.inl ⟨by rfl, ?_⟩) ?_ ?_
            rotate_left
            · intro w'
              go_simp
              with_reducible rfl
            rotate_left
            · simp only [Act.put, List.setIfInBounds_toArray, List.set_cons_zero, List.set_cons_succ, i64_w, i32_w]
              rfl
            refine pure_ (i := 4) (N := some 27) (v := ?_) (a' := ?_) #[true, false, true, false, true, false, false, false, false, false] rfl rfl (any_of HT_.out (by kernel_rfl)) (fun _ _ _ h => h) (Or.inl ⟨by rfl, ?_⟩) ?_ ?_
            rotate_left
            · intro w'
              go_simp
              with_reducible rfl
            rotate_left
            · simp only [Act.put, List.setIfInBounds_toArray, List.set_cons_zero, List.set_cons_succ, i64_w, i32_w]
              rfl
            refine inv_at [1, 3, 5, 6, 7, 8, 9] (fun a0_ b a w' => ∃ (v280 : Value) (v283 : Value) (v286 : Value) (m8_ : Value), a = putSel a0_ b [(1, 24, v280), (3, 26, .int .i64 a1_1), (5, 28, .agg #[.int .i64 a1_7, .int .i64 a1_8, .int .i64 a1_9, .int .i64 a1_10, .int .i64 a1_11]), (6, 29, v283), (7, 30, v286), (8, 4, m8_), (9, 5, .bool true)] ∧ (w'.heap[gb277]? = some (.cells #[.int .i64 a1_0, .int .i64 a1_1, .int .i64 a1_2, .int .i64 a1_3, .int .i64 a1_4, .int .i64 a1_5, .int .i64 a1_6, .int .i64 a1_7, .int .i64 a1_8, .int .i64 a1_9, .int .i64 a1_10, .int .i64 a1_11] 28 (0, 0))) ∧ (Below w.heap.size w w') ∧ (b 1 = true → b 7 = true ∨ Kd.R k26 26 w' w.heap.size (fun _ => True) v280 t279) ∧ (b 6 = true → b 7 = true ∨ Kd.R k26 26 w' w.heap.size (fun _ => True) v283 y282) ∧ (b 7 = true → Kd.R k26 26 w' w.heap.size (fun _ => True) v286 t285) ∧ (b 8 = true → (m8_ : Value) = v286) ∧ (b 1 = true → b 6 = true → ∀ k_ : Nat, Value.ownBlock v280 = some k_ → Value.ownBlock v283 ≠ some k_)) HT_.out HW_.out (by kernel_rfl) (by kernel_rfl) ?_ ?_ ?_
            · exact ⟨.bool false, .bool false, .bool false, .bool false, by simp only [putSel, Bool.false_eq_true, if_false], BK277.out, HB.out, fun h_ => absurd h_ (by decide), fun h_ => absurd h_ (by decide), fun h_ => absurd h_ (by decide), fun h_ => absurd h_ (by decide), fun h_ => absurd h_ (by decide)⟩
            · skip
              clear BK277 HB
              refine steps_cons ?_ ?_
              · rintro b a w' ⟨v280, v283, v286, m8_, ha, Q_BK277, Q_HB, Q_HO281, Q_HO284, Q_HO287, Q_X8_, Q_D⟩ hb_ hon hoff
                refine ⟨_, rfl, fun K hK => ?_⟩
                have e23 : a.tmps[23]? = some (.slice A0 l0.length c0) := by rw [ha]; exact (putSel_off rfl).trans rfl
                replace ha := Aside0.mk ha
                have BK277 := Aside0.mk Q_BK277
                have HB := Aside0.mk Q_HB
                refine goes_ Try.func91 (by kernel_rfl) rfl #[.slice A0 l0.length c0] (by rfl) rfl rfl (by first | (simp only [List.map_toArray, List.map_cons, List.map_nil, Act.eval, Array.getD_eq_getD_getElem?, Option.getD_some, e23]; done) | (simp only [List.map_toArray, List.map_cons, List.map_nil, Act.eval, Array.getD_eq_getD_getElem?, Option.getD_some, e23]; rfl)) ?_
                with_reducible refine (impl_Leg_91.calls _ _ l0 t279 _ ?side1 ?side2 A15.out).mono ?_
                (case side1 => repeat (first | exact (Kd.C_below HR0.out HB.out) | (with_reducible refine Kd.C_alloc ?_ _) | (with_reducible refine Kd.C_drewN ?_ _) | (with_reducible refine Kd.C_drew ?_)))
                (case side2 => exact HC0.out)
                rintro e w18 ⟨v280, rfl, ho0, hb⟩
                refine ⟨_, rfl, ?_⟩
                have n0_ := Aside0.mk (Kd.R_lower ho0 (below_size (upB1 HB.out GE277.out)))
                have n1_ := Aside0.mk (blk_below (g := gb277) (o := .cells #[.int .i64 a1_0, .int .i64 a1_1, .int .i64 a1_2, .int .i64 a1_3, .int .i64 a1_4, .int .i64 a1_5, .int .i64 a1_6, .int .i64 a1_7, .int .i64 a1_8, .int .i64 a1_9, .int .i64 a1_10, .int .i64 a1_11] 28 (0, 0)) (upK BK277.out) hb)
                have n2_ := Aside0.mk (below_step (upB1 HB.out GE277.out) hb)
                have z_HO284 := fun (h0_ : b 6 = true) => (Q_HO284 h0_).imp id (fun q_ => (show Kd.R k26 26 w18 w.heap.size (fun _ => True) v283 y282 from by first | exact (Kd.R_elder' (by (with_reducible repeat (first | apply Kd.R_alloc | apply Kd.R_drewN | apply Kd.R_drew)); exact q_) (Kd.R_base ho0) hb) | exact Kd.R_mono (Kd.R_elder' (by (with_reducible repeat (first | apply Kd.R_alloc | apply Kd.R_drewN | apply Kd.R_drew)); exact q_) (Kd.R_base ho0) hb) (fun _ h_ => by first | trivial | exact h_ | exact h_.1)))
                have z_D := fun (h6_ : b 6 = true) (k_ : Nat) (e1_ : Value.ownBlock v280 = some k_) (e2_ : Value.ownBlock v283 = some k_) => (absurd (Kd.R_base ho0 k_ e1_) (Nat.not_le.mpr (Kd.R_lt ((Q_HO284 h6_).resolve_left (fun h_ => absurd ((hoff 7 (by kernel_rfl)).symm.trans h_) (by decide))) k_ e2_)) : False)
                clear BK277
                clear HB
                have HO281 := n0_
                have BK277 := n1_
                have HB := n2_
                clear n0_ n1_ n2_
                (try clear hb)
                (try clear hk)
                (try clear ho0)
                refine hK.out _ _ ⟨v280, v283, v286, m8_, (by rw [ha.out]; exact putSel_upk 0 hb_ rfl rfl rfl), (upK BK277.out), (upB1 HB.out GE277.out), fun _ => .inr (upR HO281.out), z_HO284, fun h0_ => absurd ((hoff 7 (by kernel_rfl)).symm.trans h0_) (by decide), fun h0_ => absurd ((hoff 8 (by kernel_rfl)).symm.trans h0_) (by decide), fun _ h6_ k_ e1_ e2_ => z_D h6_ k_ e1_ e2_⟩
              refine steps_cons ?_ ?_
              · rintro b a w' ⟨v280, v283, v286, m8_, ha, Q_BK277, Q_HB, Q_HO281, Q_HO284, Q_HO287, Q_X8_, Q_D⟩ hb_ hon hoff
                refine ⟨_, rfl, fun K hK => ?_⟩
                have e25 : a.tmps[25]? = some (.pointer (some ⟨gb277, 1, none⟩)) := by rw [ha]; exact (putSel_off rfl).trans rfl
                replace ha := Aside0.mk ha
                have BK277 := Aside0.mk Q_BK277
                have HB := Aside0.mk Q_HB
                have hc0_ := ci BK277.out 0 a1_0 rfl
                have hc1_ := ci BK277.out 1 a1_1 rfl
                have hc2_ := ci BK277.out 2 a1_2 rfl
                have hc3_ := ci BK277.out 3 a1_3 rfl
                have hc4_ := ci BK277.out 4 a1_4 rfl
                have hc5_ := ci BK277.out 5 a1_5 rfl
                have hc6_ := ci BK277.out 6 a1_6 rfl
                have hc7_ := ci BK277.out 7 a1_7 rfl
                have hc8_ := ci BK277.out 8 a1_8 rfl
                have hc9_ := ci BK277.out 9 a1_9 rfl
                have hc10_ := ci BK277.out 10 a1_10 rfl
                have hc11_ := ci BK277.out 11 a1_11 rfl
                refine value_ (w1 := w') (v := .int .i64 a1_1) (by rfl) rfl ?_ ?_
                · go_simp
                  (try simp only [i64_w])
                  try rfl
                refine hK.out _ _ ⟨v280, v283, v286, m8_, (by rw [ha.out]; exact putSel_upk 1 hb_ rfl rfl rfl), Q_BK277, Q_HB, Q_HO281, Q_HO284, fun h0_ => absurd ((hoff 7 (by kernel_rfl)).symm.trans h0_) (by decide), fun h0_ => absurd ((hoff 8 (by kernel_rfl)).symm.trans h0_) (by decide), Q_D⟩
              refine steps_cons ?_ ?_
              · rintro b a w' ⟨v280, v283, v286, m8_, ha, Q_BK277, Q_HB, Q_HO281, Q_HO284, Q_HO287, Q_X8_, Q_D⟩ hb_ hon hoff
                refine ⟨_, rfl, fun K hK => ?_⟩
                have e27 : a.tmps[27]? = some (.pointer (some ⟨gb277, 7, none⟩)) := by rw [ha]; exact (putSel_off rfl).trans rfl
                replace ha := Aside0.mk ha
                have BK277 := Aside0.mk Q_BK277
                have HB := Aside0.mk Q_HB
                have hc0_ := ci BK277.out 0 a1_0 rfl
                have hc1_ := ci BK277.out 1 a1_1 rfl
                have hc2_ := ci BK277.out 2 a1_2 rfl
                have hc3_ := ci BK277.out 3 a1_3 rfl
                have hc4_ := ci BK277.out 4 a1_4 rfl
                have hc5_ := ci BK277.out 5 a1_5 rfl
                have hc6_ := ci BK277.out 6 a1_6 rfl
                have hc7_ := ci BK277.out 7 a1_7 rfl
                have hc8_ := ci BK277.out 8 a1_8 rfl
                have hc9_ := ci BK277.out 9 a1_9 rfl
                have hc10_ := ci BK277.out 10 a1_10 rfl
                have hc11_ := ci BK277.out 11 a1_11 rfl
                refine value_ (w1 := w') (v := .agg #[.int .i64 a1_7, .int .i64 a1_8, .int .i64 a1_9, .int .i64 a1_10, .int .i64 a1_11]) (by rfl) rfl ?_ ?_
                · go_simp
                  (try simp only [i64_w])
                  try rfl
                refine hK.out _ _ ⟨v280, v283, v286, m8_, (by rw [ha.out]; exact putSel_upk 2 hb_ rfl rfl rfl), Q_BK277, Q_HB, Q_HO281, fun h0_ => absurd ((hoff 6 (by kernel_rfl)).symm.trans h0_) (by decide), fun h0_ => absurd ((hoff 7 (by kernel_rfl)).symm.trans h0_) (by decide), fun h0_ => absurd ((hoff 8 (by kernel_rfl)).symm.trans h0_) (by decide), fun _ h6_ => absurd ((hoff 6 (by kernel_rfl)).symm.trans h6_) (by decide)⟩
              refine steps_cons ?_ ?_
              · rintro b a w' ⟨v280, v283, v286, m8_, ha, Q_BK277, Q_HB, Q_HO281, Q_HO284, Q_HO287, Q_X8_, Q_D⟩ hb_ hon hoff
                refine ⟨_, rfl, fun K hK => ?_⟩
                have e28 : a.tmps[28]? = some (.agg #[.int .i64 a1_7, .int .i64 a1_8, .int .i64 a1_9, .int .i64 a1_10, .int .i64 a1_11]) := by rw [ha]; exact putSel_on (e := (5, 28, .agg #[.int .i64 a1_7, .int .i64 a1_8, .int .i64 a1_9, .int .i64 a1_10, .int .i64 a1_11])) 2 rfl rfl (hon 5 (by kernel_rfl)) rfl
                replace ha := Aside0.mk ha
                have BK277 := Aside0.mk Q_BK277
                have HB := Aside0.mk Q_HB
                refine Kd.R_lit_step k26 _ 26 ?hg (N := 29) ?hd (xs := ([(⟨a1_7, a1_8, a1_9, a1_10, a1_11⟩ : S26)] : List (S26))) (inner := [.int .i64 a1_7, .int .i64 a1_8, .int .i64 a1_9, .int .i64 a1_10, .int .i64 a1_11]) (ok := fun _ => True) (okp := fun _ => True) ?hr ?hp (fun _ hk => hk) trivial (Below.refl _ _) (Nat.le_refl _) (by simp) ?_; (case hd => rfl); (case hg => rfl); (case hr => first | (go_simp; done) | (go_simp; rfl)); (case hp => exact (Reps.c5 (show Kd.M k26 _ _ _ (⟨a1_7, a1_8, a1_9, a1_10, a1_11⟩ : S26) [.int .i64 a1_7, .int .i64 a1_8, .int .i64 a1_9, .int .i64 a1_10, .int .i64 a1_11] from (k26_mkM _ _ _ (⟨a1_7, a1_8, a1_9, a1_10, a1_11⟩ : S26) )) (Reps.none _ _)))
                intro v283 w18 ho19 hb hg_ hnew_
                clear hg_ hnew_
                (first | rw [← Ny282.out] at ho19 | (simp only [Int.reduceToNat] at ho19; rw [← Ny282.out] at ho19))
                have n0_ := Aside0.mk (Kd.R_lower ho19 (below_size (upB1 HB.out GE277.out)))
                have n1_ := Aside0.mk (blk_below (g := gb277) (o := .cells #[.int .i64 a1_0, .int .i64 a1_1, .int .i64 a1_2, .int .i64 a1_3, .int .i64 a1_4, .int .i64 a1_5, .int .i64 a1_6, .int .i64 a1_7, .int .i64 a1_8, .int .i64 a1_9, .int .i64 a1_10, .int .i64 a1_11] 28 (0, 0)) (upK BK277.out) hb)
                have n2_ := Aside0.mk (below_step (upB1 HB.out GE277.out) hb)
                have z_HO281 := fun (h0_ : b 1 = true) => (Q_HO281 h0_).imp id (fun q_ => (show Kd.R k26 26 w18 w.heap.size (fun _ => True) v280 t279 from by first | exact (Kd.R_elder' (by (with_reducible repeat (first | apply Kd.R_alloc | apply Kd.R_drewN | apply Kd.R_drew)); exact q_) (Kd.R_base ho19) hb) | exact Kd.R_mono (Kd.R_elder' (by (with_reducible repeat (first | apply Kd.R_alloc | apply Kd.R_drewN | apply Kd.R_drew)); exact q_) (Kd.R_base ho19) hb) (fun _ h_ => by first | trivial | exact h_ | exact h_.1)))
                have z_D := fun (h6_ : b 1 = true) (k_ : Nat) (e1_ : Value.ownBlock v280 = some k_) (e2_ : Value.ownBlock v283 = some k_) => (absurd (Kd.R_base ho19 k_ e2_) (Nat.not_le.mpr (Kd.R_lt ((Q_HO281 h6_).resolve_left (fun h_ => absurd ((hoff 7 (by kernel_rfl)).symm.trans h_) (by decide))) k_ e1_)) : False)
                clear BK277
                clear HB
                have HO284 := n0_
                have BK277 := n1_
                have HB := n2_
                clear n0_ n1_ n2_
                clear hb ho19
                refine hK.out _ _ ⟨v280, v283, v286, m8_, (by rw [ha.out]; exact putSel_upk 3 hb_ rfl rfl rfl), (upK BK277.out), (upB1 HB.out GE277.out), z_HO281, fun _ => .inr (upR HO284.out), fun h0_ => absurd ((hoff 7 (by kernel_rfl)).symm.trans h0_) (by decide), fun h0_ => absurd ((hoff 8 (by kernel_rfl)).symm.trans h0_) (by decide), fun h1_ _ k_ e1_ e2_ => z_D h1_ k_ e1_ e2_⟩
              refine steps_cons ?_ ?_
              · rintro b a w' ⟨v280, v283, v286, m8_, ha, Q_BK277, Q_HB, Q_HO281, Q_HO284, Q_HO287, Q_X8_, Q_D⟩ hb_ hon hoff
                refine ⟨_, rfl, fun K hK => ?_⟩
                have e24 : a.tmps[24]? = some (v280) := by rw [ha]; exact putSel_on (e := (1, 24, v280)) 0 rfl rfl (hon 1 (by kernel_rfl)) rfl
                have e26 : a.tmps[26]? = some (.int .i64 a1_1) := by rw [ha]; exact putSel_on (e := (3, 26, .int .i64 a1_1)) 1 rfl rfl (hon 3 (by kernel_rfl)) rfl
                have e29 : a.tmps[29]? = some (v283) := by rw [ha]; exact putSel_on (e := (6, 29, v283)) 3 rfl rfl (hon 6 (by kernel_rfl)) rfl
                replace ha := Aside0.mk ha
                have BK277 := Aside0.mk Q_BK277
                have HB := Aside0.mk Q_HB
                have HO281 := Aside0.mk ((Q_HO281 (hon 1 (by kernel_rfl))).resolve_left (fun h_ => absurd (hb_.symm.trans h_) (by decide)))
                have HO284 := Aside0.mk ((Q_HO284 (hon 6 (by kernel_rfl))).resolve_left (fun h_ => absurd (hb_.symm.trans h_) (by decide)))
                obtain ⟨Ao22, co22, eo22⟩ := Kd.R_slice HO281.out
                (first | subst eo22 | (injection eo22 with f1_ f2_ f3_; have f4_ := f1_.symm; have f5_ := f3_.symm; clear f1_ f2_ f3_; subst f4_; subst f5_))
                obtain ⟨Ao23, co23, eo23⟩ := Kd.R_slice HO284.out
                (first | subst eo23 | (injection eo23 with f1_ f2_ f3_; have f4_ := f1_.symm; have f5_ := f3_.symm; clear f1_ f2_ f3_; subst f4_; subst f5_))
                refine goes_ Try.func90 (by kernel_rfl) rfl #[.slice Ao22 t279.length co22, .int .i64 a1_1, .slice Ao23 y282.length co23] (by rfl) rfl rfl (by first | (simp only [List.map_toArray, List.map_cons, List.map_nil, Act.eval, Array.getD_eq_getD_getElem?, Option.getD_some, e24, e26, e29]; done) | (simp only [List.map_toArray, List.map_cons, List.map_nil, Act.eval, Array.getD_eq_getD_getElem?, Option.getD_some, e24, e26, e29]; rfl)) ?_
                with_reducible refine (impl_Leg_90.calls _ _ t279 a1_1 _ _ y282 t285 _ w.heap.size HO281.out HO284.out (Q_D (hon 1 (by kernel_rfl)) (hon 6 (by kernel_rfl))) HB.out.size A16.out).mono ?_
                rintro e w24 ⟨v286, rfl, ho0, hb, hoth_⟩
                refine ⟨_, rfl, ?_⟩
                have n0_ := Aside0.mk trivial
                have n1_ := Aside0.mk trivial
                have n2_ := Aside0.mk ho0
                have n3_ := Aside0.mk (hoth_ _ _ BK277.out (fun _ _ h_ => by injection h_ with _ h_; exact absurd h_ (by decide)))
                have n4_ := Aside0.mk (HB.out.trans hb)
                clear HO281
                clear HO284
                clear BK277
                clear HB
                have HO281 := n0_
                have HO284 := n1_
                have HO287 := n2_
                have BK277 := n3_
                have HB := n4_
                clear n0_ n1_ n2_ n3_ n4_
                (try clear hb)
                (try clear hk)
                (try clear ho0)
                refine hK.out _ _ ⟨.slice Ao22 t279.length co22, .slice Ao23 y282.length co23, v286, m8_, (by rw [ha.out]; exact putSel_upk 4 hb_ rfl rfl rfl), (upK BK277.out), (upB1 HB.out GE277.out), fun _ => .inl rfl, fun _ => .inl rfl, fun _ => (upR HO287.out), fun h0_ => absurd ((hoff 8 (by kernel_rfl)).symm.trans h0_) (by decide), Q_D⟩
              refine steps_cons ?_ ?_
              · rintro b a w' ⟨v280, v283, v286, m8_, ha, Q_BK277, Q_HB, Q_HO281, Q_HO284, Q_HO287, Q_X8_, Q_D⟩ hb_ hon hoff
                refine ⟨_, rfl, fun K hK => ?_⟩
                have e30 : a.tmps[30]? = some (v286) := by rw [ha]; exact putSel_on (e := (7, 30, v286)) 4 rfl rfl (hon 7 (by kernel_rfl)) rfl
                replace ha := Aside0.mk ha
                have BK277 := Aside0.mk Q_BK277
                have HB := Aside0.mk Q_HB
                have HO281 := Aside0.mk (Q_HO281 (hon 1 (by kernel_rfl)))
                have HO284 := Aside0.mk (Q_HO284 (hon 6 (by kernel_rfl)))
                have HO287 := Aside0.mk (Q_HO287 (hon 7 (by kernel_rfl)))
                refine value_ (w1 := w') (v := v286) (by rfl) rfl ?_ ?_
                · go_simp
                  (try simp only [i64_w])
                  try rfl
                refine hK.out _ _ ⟨v280, v283, v286, (v286), (by rw [ha.out]; exact putSel_upk 5 hb_ rfl rfl rfl), Q_BK277, Q_HB, Q_HO281, Q_HO284, Q_HO287, fun _ => rfl, Q_D⟩
              refine steps_cons ?_ ?_
              · rintro b a w' ⟨v280, v283, v286, m8_, ha, Q_BK277, Q_HB, Q_HO281, Q_HO284, Q_HO287, Q_X8_, Q_D⟩ hb_ hon hoff
                refine ⟨_, rfl, fun K hK => ?_⟩
                replace ha := Aside0.mk ha
                have BK277 := Aside0.mk Q_BK277
                have HB := Aside0.mk Q_HB
                have HO281 := Aside0.mk (Q_HO281 (hon 1 (by kernel_rfl)))
                have HO284 := Aside0.mk (Q_HO284 (hon 6 (by kernel_rfl)))
                have HO287 := Aside0.mk (Q_HO287 (hon 7 (by kernel_rfl)))
                refine value_ (w1 := w') (v := .bool true) (by rfl) rfl ?_ ?_
                · go_simp
                  (try simp only [i64_w])
                  try rfl
                refine hK.out _ _ ⟨v280, v283, v286, m8_, (by rw [ha.out]; exact putSel_upk 6 hb_ rfl rfl rfl), Q_BK277, Q_HB, Q_HO281, Q_HO284, Q_HO287, Q_X8_, Q_D⟩
              exact steps_nil
            rintro b a w24 hall ⟨v280, v283, v286, m8_, ha, Q_BK277, Q_HB, Q_HO281, Q_HO284, Q_HO287, Q_X8_, Q_D⟩
            clear BK277 HB
            have hb1_ := hall 1 (by kernel_rfl)
            have hb3_ := hall 3 (by kernel_rfl)
            have hb5_ := hall 5 (by kernel_rfl)
            have hb6_ := hall 6 (by kernel_rfl)
            have hb7_ := hall 7 (by kernel_rfl)
            have hb8_ := hall 8 (by kernel_rfl)
            have hb9_ := hall 9 (by kernel_rfl)
            subst ha
            obtain rfl := Q_X8_ hb8_
            simp only [putSel, hb1_, hb3_, hb5_, hb6_, hb7_, hb8_, hb9_, if_true, Act.put, List.setIfInBounds_toArray, List.set_cons_zero, List.set_cons_succ]
            have BK277 := Aside0.mk Q_BK277
            clear Q_BK277
            have HB := Aside0.mk Q_HB
            clear Q_HB
            have HO281 := Aside0.mk (Q_HO281 hb1_)
            clear Q_HO281
            have HO284 := Aside0.mk (Q_HO284 hb6_)
            clear Q_HO284
            have HO287 := Aside0.mk (Q_HO287 hb7_)
            clear Q_HO287
            clear Q_D
            clear hall hb1_ hb3_ hb5_ hb6_ hb7_ hb8_ hb9_
            try go_wp2
            go_ret2
            exact ⟨_, by first | rfl | (simp [errW_none, errW_some] <;> rfl) | (simp [*, errW_none, errW_some] <;> rfl), by (with_reducible repeat (first | apply Kd.R_alloc | apply Kd.R_drewN | apply Kd.R_drew)); exact Kd.R_mono HO287.out (fun _ hk => trivial), (upB1 HB.out GE277.out)⟩
    · rw [if_neg c5] at H
      have c5b0 : (a1_0 == 1) = false := beq_eq_false_iff_ne.mpr c5
      have c5b1 : (a1_0 != 1) = true := bne_iff_ne.mpr c5
      have HC25 := Aside0.mk H
      clear H
      go_enter Try.func67, Try.ntmps67
      go_upto_region 7 with (first | ((with_reducible refine gate_dst (N := 3) rfl ?_); (try (refine gate_guard (by rfl) ?_; dsimp only)); refine box_event ?hg (N := 3) ?hd (cs := #[.int .i64 a1_0, .int .i64 a1_1, .int .i64 a1_2, .int .i64 a1_3, .int .i64 a1_4, .int .i64 a1_5, .int .i64 a1_6, .int .i64 a1_7, .int .i64 a1_8, .int .i64 a1_9, .int .i64 a1_10, .int .i64 a1_11]) (t := 28) ?hr ?_; (case hd => rfl); (case hg => rfl); (case hr => first | (go_simp; done) | (go_simp; rfl)); intro gb277 hg w26 hbox hb; have n0_ := Aside0.mk (below_step (upB HB.out) hb); have n1_ := Aside0.mk (hbox); have n2_ := Aside0.mk ((by rw [hg]; exact (below_size (upB HB.out)) : w.heap.size ≤ gb277)); have n3_ := Aside0.mk ((by rw [hg]; exact (below_size (upB HB.out)) : w.heap.size ≤ gb277)); clear HB; have HB := n0_; have BK277 := n1_; have GW277 := n2_; have GE277 := n3_; clear n0_ n1_ n2_ n3_; clear hb hbox hg; have hcz27_0 := ci BK277.out 0 a1_0 rfl; have hcz27_1 := ci BK277.out 1 a1_1 rfl; have hcz27_2 := ci BK277.out 2 a1_2 rfl; have hcz27_3 := ci BK277.out 3 a1_3 rfl; have hcz27_4 := ci BK277.out 4 a1_4 rfl; have hcz27_5 := ci BK277.out 5 a1_5 rfl; have hcz27_6 := ci BK277.out 6 a1_6 rfl; have hcz27_7 := ci BK277.out 7 a1_7 rfl; have hcz27_8 := ci BK277.out 8 a1_8 rfl; have hcz27_9 := ci BK277.out 9 a1_9 rfl; have hcz27_10 := ci BK277.out 10 a1_10 rfl; have hcz27_11 := ci BK277.out 11 a1_11 rfl; have hfz27_0 := fun j_ : Nat => blk_frozen BK277.out j_) | ((with_reducible refine gate_callee (f := 61) rfl ?_); refine goesL_ (some 8) rfl rfl Try.func61 (by kernel_rfl) rfl #[.agg #[.int .i64 a1_0, .int .i64 a1_1, .int .i64 a1_2, .int .i64 a1_3, .int .i64 a1_4, .int .i64 a1_5, .int .i64 a1_6, .int .i64 a1_7, .int .i64 a1_8, .int .i64 a1_9, .int .i64 a1_10, .int .i64 a1_11]] rfl argsB ?_; (with_reducible refine (impl_isEdit.calls a1_0 a1_1 a1_2 a1_3 a1_4 a1_5 a1_6 a1_7 a1_8 a1_9 a1_10 a1_11 true _ A3.out).mono ?_); rintro e w28 ⟨rfl, hb⟩; refine ⟨_, rfl, ?_⟩; have n0_ := Aside0.mk (blk_below (g := gb277) (o := .cells #[.int .i64 a1_0, .int .i64 a1_1, .int .i64 a1_2, .int .i64 a1_3, .int .i64 a1_4, .int .i64 a1_5, .int .i64 a1_6, .int .i64 a1_7, .int .i64 a1_8, .int .i64 a1_9, .int .i64 a1_10, .int .i64 a1_11] 28 (0, 0)) (upK BK277.out) hb); have n1_ := Aside0.mk (below_step (upB1 HB.out GE277.out) hb); clear BK277; clear HB; have BK277 := n0_; have HB := n1_; clear n0_ n1_; (try clear hb); (try clear hk); have hcz29_0 := ci BK277.out 0 a1_0 rfl; have hcz29_1 := ci BK277.out 1 a1_1 rfl; have hcz29_2 := ci BK277.out 2 a1_2 rfl; have hcz29_3 := ci BK277.out 3 a1_3 rfl; have hcz29_4 := ci BK277.out 4 a1_4 rfl; have hcz29_5 := ci BK277.out 5 a1_5 rfl; have hcz29_6 := ci BK277.out 6 a1_6 rfl; have hcz29_7 := ci BK277.out 7 a1_7 rfl; have hcz29_8 := ci BK277.out 8 a1_8 rfl; have hcz29_9 := ci BK277.out 9 a1_9 rfl; have hcz29_10 := ci BK277.out 10 a1_10 rfl; have hcz29_11 := ci BK277.out 11 a1_11 rfl; have hfz29_0 := fun j_ : Nat => blk_frozen BK277.out j_))
      (try simp only [Act.put, List.setIfInBounds_toArray, List.set_cons_zero, List.set_cons_succ])
      go_cut [45] (fun v45 wc => ∃ (kq : Nat) (x45_24 : Bool), v45 = .bool x45_24 ∧ Aside0 (impl_apply.j1 kq l0 x45_24 a1_0 a1_1 a1_2 a1_3 a1_4 a1_5 a1_6 a1_7 a1_8 a1_9 a1_10 a1_11 = some (r1, r2)) ∧ Aside0 (kq ≤ k) ∧ Aside0 (wc.heap[gb277]? = some (.cells #[.int .i64 a1_0, .int .i64 a1_1, .int .i64 a1_2, .int .i64 a1_3, .int .i64 a1_4, .int .i64 a1_5, .int .i64 a1_6, .int .i64 a1_7, .int .i64 a1_8, .int .i64 a1_9, .int .i64 a1_10, .int .i64 a1_11] 28 (0, 0))) ∧ Aside0 (Below w.heap.size w wc))
      case first =>
        have H := HC25.out
        clear HC25
        by_cases c30 : a1_1 ≥ (l0.length : Int)
        · rw [if_pos c30] at H
          have c30b0 : decide ((l0.length : Int) ≤ a1_1) = true := decide_eq_true c30
          clear c30
          (first | rw [c30b0] | (simp only [i64_w, i32_w]; rw [c30b0]) | skip)
          have H' := Aside0.mk H
          clear H
          try go_wp2
          have n0_ := Aside0.mk (blk_drew BK277.out)
          have n1_ := Aside0.mk (below_drew1 HB.out)
          clear BK277
          clear HB
          have BK277 := n0_
          have HB := n1_
          clear n0_ n1_
          refine start_ (n := 15) (S := fun w' => w'.cell? ⟨gb277, 0, none⟩ = some (.int .i64 a1_0) ∧ w'.cell? ⟨gb277, 1, none⟩ = some (.int .i64 a1_1) ∧ w'.cell? ⟨gb277, 2, none⟩ = some (.int .i64 a1_2) ∧ w'.cell? ⟨gb277, 3, none⟩ = some (.int .i64 a1_3) ∧ w'.cell? ⟨gb277, 4, none⟩ = some (.int .i64 a1_4) ∧ w'.cell? ⟨gb277, 5, none⟩ = some (.int .i64 a1_5) ∧ w'.cell? ⟨gb277, 6, none⟩ = some (.int .i64 a1_6) ∧ w'.cell? ⟨gb277, 7, none⟩ = some (.int .i64 a1_7) ∧ w'.cell? ⟨gb277, 8, none⟩ = some (.int .i64 a1_8) ∧ w'.cell? ⟨gb277, 9, none⟩ = some (.int .i64 a1_9) ∧ w'.cell? ⟨gb277, 10, none⟩ = some (.int .i64 a1_10) ∧ w'.cell? ⟨gb277, 11, none⟩ = some (.int .i64 a1_11)) (ds := []) #[false, false, false, false, false, false, false, false, false, false, false, false, false, false, false] (by kernel_rfl) rfl rfl ⟨(blk_cell BK277.out 0).trans rfl, (blk_cell BK277.out 1).trans rfl, (blk_cell BK277.out 2).trans rfl, (blk_cell BK277.out 3).trans rfl, (blk_cell BK277.out 4).trans rfl, (blk_cell BK277.out 5).trans rfl, (blk_cell BK277.out 6).trans rfl, (blk_cell BK277.out 7).trans rfl, (blk_cell BK277.out 8).trans rfl, (blk_cell BK277.out 9).trans rfl, (blk_cell BK277.out 10).trans rfl, (blk_cell BK277.out 11).trans rfl⟩ (fun hHeld => ?_); refine with_tabW impl_apply.tab7 impl_apply.bits7 (fun HT_ HW_ => ?_)
          generalize w28.drew = w31 at BK277 HB hHeld ⊢
          refine pure_ (i := 0) (N := some 31) (v := ?_) (a' := ?_) #[true, false, false, false, false, false, false, false, false, false, false, false, false, false, false] rfl rfl (any_of HT_.out (by kernel_rfl)) (fun _ _ _ h => h) (Or.inl ⟨by rfl, ?_⟩) ?_ ?_
          rotate_left
          · intro w'
            go_simp
            with_reducible rfl
          rotate_left
          · simp only [Act.put, List.setIfInBounds_toArray, List.set_cons_zero, List.set_cons_succ, i64_w, i32_w]
            rfl
          refine pure_ (i := 2) (N := some 33) (v := ?_) (a' := ?_) #[true, false, true, false, false, false, false, false, false, false, false, false, false, false, false] rfl rfl (any_of HT_.out (by kernel_rfl)) (fun _ _ _ h => h) (Or.inl ⟨by rfl, ?_⟩) ?_ ?_
          rotate_left
          · intro w'
            go_simp
            with_reducible rfl
          rotate_left
          · simp only [Act.put, List.setIfInBounds_toArray, List.set_cons_zero, List.set_cons_succ, i64_w, i32_w]
            rfl
          refine pure_ (i := 3) (N := some 34) (v := ?_) (a' := ?_) #[true, false, true, true, false, false, false, false, false, false, false, false, false, false, false] rfl rfl (any_of HT_.out (by kernel_rfl)) (fun _ _ _ h => h) (Or.inl ⟨by rfl, ?_⟩) ?_ ?_
          rotate_left
          · intro w'
            go_simp
            with_reducible rfl
          rotate_left
          · simp only [Act.put, List.setIfInBounds_toArray, List.set_cons_zero, List.set_cons_succ, i64_w, i32_w]
            rfl
          refine take_ (i := 1) (N := some 32) (v := ?_) (a' := ?_) #[true, true, true, true, false, false, false, false, false, false, false, false, false, false, false] rfl rfl (take_ofW HT_.out HW_.out (by kernel_rfl)) (fun _ _ _ h => h) (Or.inl ⟨by rfl, ?_⟩) hHeld ?_ ?_
          rotate_left
          · rintro w' ⟨s0, s1, s2, s3, s4, s5, s6, s7, s8, s9, s10, s11⟩
            go_simp
            with_reducible rfl
          rotate_left
          · simp only [Act.put, List.setIfInBounds_toArray, List.set_cons_zero, List.set_cons_succ, i64_w, i32_w]
            rfl
          refine pure_ (i := 4) (N := some 35) (v := ?_) (a' := ?_) #[true, true, true, true, true, false, false, false, false, false, false, false, false, false, false] rfl rfl (any_of HT_.out (by kernel_rfl)) (fun _ _ _ h => h) (Or.inl ⟨by rfl, ?_⟩) ?_ ?_
          rotate_left
          · intro w'
            go_simp
            with_reducible rfl
          rotate_left
          · simp only [Act.put, List.setIfInBounds_toArray, List.set_cons_zero, List.set_cons_succ, i64_w, i32_w]
            rfl
          refine pure_ (i := 5) (N := some 36) (v := ?_) (a' := ?_) #[true, true, true, true, true, true, false, false, false, false, false, false, false, false, false] rfl rfl (any_of HT_.out (by kernel_rfl)) (fun _ _ _ h => h) (Or.inl ⟨by rfl, ?_⟩) ?_ ?_
          rotate_left
          · intro w'
            go_simp
            with_reducible rfl
          rotate_left
          · simp only [Act.put, List.setIfInBounds_toArray, List.set_cons_zero, List.set_cons_succ, i64_w, i32_w]
            rfl
          refine pure_ (i := 6) (N := some 37) (v := undef) (a' := ?_) #[true, true, true, true, true, true, true, false, false, false, false, false, false, false, false] rfl rfl (any_of HT_.out (by kernel_rfl)) (fun _ _ _ h => h) (Or.inr ⟨by rfl, rfl⟩) ?_ ?_
          rotate_left
          · simp only [Act.put, List.setIfInBounds_toArray, List.set_cons_zero, List.set_cons_succ, i64_w, i32_w]
            rfl
          refine pure_ (i := 7) (N := some 38) (v := undef) (a' := ?_) #[true, true, true, true, true, true, true, true, false, false, false, false, false, false, false] rfl rfl (any_of HT_.out (by kernel_rfl)) (fun _ _ _ h => h) (Or.inr ⟨by rfl, rfl⟩) ?_ ?_
          rotate_left
          · simp only [Act.put, List.setIfInBounds_toArray, List.set_cons_zero, List.set_cons_succ, i64_w, i32_w]
            rfl
          refine pure_ (i := 8) (N := some 39) (v := undef) (a' := ?_) #[true, true, true, true, true, true, true, true, true, false, false, false, false, false, false] rfl rfl (any_of HT_.out (by kernel_rfl)) (fun _ _ _ h => h) (Or.inr ⟨by rfl, rfl⟩) ?_ ?_
          rotate_left
          · simp only [Act.put, List.setIfInBounds_toArray, List.set_cons_zero, List.set_cons_succ, i64_w, i32_w]
            rfl
          refine pure_ (i := 9) (N := some 40) (v := undef) (a' := ?_) #[true, true, true, true, true, true, true, true, true, true, false, false, false, false, false] rfl rfl (any_of HT_.out (by kernel_rfl)) (fun _ _ _ h => h) (Or.inr ⟨by rfl, rfl⟩) ?_ ?_
          rotate_left
          · simp only [Act.put, List.setIfInBounds_toArray, List.set_cons_zero, List.set_cons_succ, i64_w, i32_w]
            rfl
          refine pure_ (i := 10) (N := some 41) (v := undef) (a' := ?_) #[true, true, true, true, true, true, true, true, true, true, true, false, false, false, false] rfl rfl (any_of HT_.out (by kernel_rfl)) (fun _ _ _ h => h) (Or.inr ⟨by rfl, rfl⟩) ?_ ?_
          rotate_left
          · simp only [Act.put, List.setIfInBounds_toArray, List.set_cons_zero, List.set_cons_succ, i64_w, i32_w]
            rfl
          refine pure_ (i := 11) (N := some 42) (v := undef) (a' := ?_) #[true, true, true, true, true, true, true, true, true, true, true, true, false, false, false] rfl rfl (any_of HT_.out (by kernel_rfl)) (fun _ _ _ h => h) (Or.inr ⟨by rfl, rfl⟩) ?_ ?_
          rotate_left
          · simp only [Act.put, List.setIfInBounds_toArray, List.set_cons_zero, List.set_cons_succ, i64_w, i32_w]
            rfl
          refine pure_ (i := 12) (N := some 43) (v := undef) (a' := ?_) #[true, true, true, true, true, true, true, true, true, true, true, true, true, false, false] rfl rfl (any_of HT_.out (by kernel_rfl)) (fun _ _ _ h => h) (Or.inr ⟨by rfl, rfl⟩) ?_ ?_
          rotate_left
          · simp only [Act.put, List.setIfInBounds_toArray, List.set_cons_zero, List.set_cons_succ, i64_w, i32_w]
            rfl
          refine pure_ (i := 13) (N := some 44) (v := undef) (a' := ?_) #[true, true, true, true, true, true, true, true, true, true, true, true, true, true, false] rfl rfl (any_of HT_.out (by kernel_rfl)) (fun _ _ _ h => h) (Or.inr ⟨by rfl, rfl⟩) ?_ ?_
          rotate_left
          · simp only [Act.put, List.setIfInBounds_toArray, List.set_cons_zero, List.set_cons_succ, i64_w, i32_w]
            rfl
          refine pure_ (i := 14) (N := some 45) (v := ?_) (a' := ?_) #[true, true, true, true, true, true, true, true, true, true, true, true, true, true, true] rfl rfl (any_of HT_.out (by kernel_rfl)) (fun _ _ _ h => h) (Or.inl ⟨by rfl, ?_⟩) ?_ ?_
          rotate_left
          · intro w'
            go_simp
            with_reducible rfl
          rotate_left
          · simp only [Act.put, List.setIfInBounds_toArray, List.set_cons_zero, List.set_cons_succ, i64_w, i32_w]
            rfl
          refine done_ (done_of HT_.out (by kernel_rfl)) ?_
          try go_wp2
          go_meet
          case rel => exact ⟨_, (true), (by first | rfl | (simp; done) | (simp [*]; done)), H', ⟨by first | omega | exact Nat.le_refl _⟩, ⟨by (with_reducible repeat (first | refine blk_drewN ?_ _ | refine blk_drew ?_ | refine blk_alloc ?_ _)); exact BK277.out⟩, ⟨(upB1 HB.out GE277.out)⟩⟩
        · rw [if_neg c30] at H
          have c30b0 : decide ((l0.length : Int) ≤ a1_1) = false := decide_eq_false c30
          clear c30
          (first | rw [c30b0] | (simp only [i64_w, i32_w]; rw [c30b0]) | skip)
          by_cases c32 : 0 ≤ a1_1
          · rw [if_pos c32] at H
            have c32b0 : decide (0 ≤ a1_1) = true := decide_eq_true c32
            clear c32
            by_cases c33 : a1_1 < (l0.length : Int)
            · rw [if_pos c33] at H
              have c33b0 : decide (a1_1 < (l0.length : Int)) = true := decide_eq_true c33
              clear c33
              have H' := Aside0.mk H
              clear H
              try go_wp2
              have n0_ := Aside0.mk (blk_drew BK277.out)
              have n1_ := Aside0.mk (below_drew1 HB.out)
              clear BK277
              clear HB
              have BK277 := n0_
              have HB := n1_
              clear n0_ n1_
              have p288 : 0 ≤ (a1_1 : Int) := of_decide_eq_true asmB
              have q288 : a1_1 < (l0.length : Int) := of_decide_eq_true asmB
              obtain ⟨ad288, e288, hx288_0, hx288_1, hx288_2, hx288_3, hx288_4⟩ := at_T26 HR0.out a1_1 p288 q288
              have hw288_4 := hx288_4
              have hw288_3 := hx288_3
              have hw288_2 := hx288_2
              have hw288_1 := hx288_1
              have hw288_0 := hx288_0
              cases e288
              replace hx288_0 := bx HB.out hx288_0
              replace hx288_1 := bx HB.out hx288_1
              replace hx288_2 := bx HB.out hx288_2
              replace hx288_3 := bx HB.out hx288_3
              replace hx288_4 := bx HB.out hx288_4
              replace p288 := eq_true p288
              replace q288 := eq_true q288
              refine start_ (n := 15) (S := fun w' => w'.cell? ⟨gb277, 0, none⟩ = some (.int .i64 a1_0) ∧ w'.cell? ⟨gb277, 1, none⟩ = some (.int .i64 a1_1) ∧ w'.cell? ⟨gb277, 2, none⟩ = some (.int .i64 a1_2) ∧ w'.cell? ⟨gb277, 3, none⟩ = some (.int .i64 a1_3) ∧ w'.cell? ⟨gb277, 4, none⟩ = some (.int .i64 a1_4) ∧ w'.cell? ⟨gb277, 5, none⟩ = some (.int .i64 a1_5) ∧ w'.cell? ⟨gb277, 6, none⟩ = some (.int .i64 a1_6) ∧ w'.cell? ⟨gb277, 7, none⟩ = some (.int .i64 a1_7) ∧ w'.cell? ⟨gb277, 8, none⟩ = some (.int .i64 a1_8) ∧ w'.cell? ⟨gb277, 9, none⟩ = some (.int .i64 a1_9) ∧ w'.cell? ⟨gb277, 10, none⟩ = some (.int .i64 a1_10) ∧ w'.cell? ⟨gb277, 11, none⟩ = some (.int .i64 a1_11) ∧ w'.cell? (ad288.add ((a1_1).toNat * 5)) = some (.int .i64 ((rd_T26 l0 a1_1).f0)) ∧ w'.cell? ⟨(ad288.add ((a1_1).toNat * 5)).block, (ad288.add ((a1_1).toNat * 5)).off + 1, none⟩ = some (.int .i64 ((rd_T26 l0 a1_1).f1)) ∧ w'.cell? ⟨(ad288.add ((a1_1).toNat * 5)).block, (ad288.add ((a1_1).toNat * 5)).off + 2, none⟩ = some (.int .i64 ((rd_T26 l0 a1_1).f2)) ∧ w'.cell? ⟨(ad288.add ((a1_1).toNat * 5)).block, (ad288.add ((a1_1).toNat * 5)).off + 3, none⟩ = some (.int .i64 ((rd_T26 l0 a1_1).f3)) ∧ w'.cell? ⟨(ad288.add ((a1_1).toNat * 5)).block, (ad288.add ((a1_1).toNat * 5)).off + 4, none⟩ = some (.int .i64 ((rd_T26 l0 a1_1).f4))) (ds := []) #[false, false, false, false, false, false, false, false, false, false, false, false, false, false, false] (by kernel_rfl) rfl rfl ⟨(blk_cell BK277.out 0).trans rfl, (blk_cell BK277.out 1).trans rfl, (blk_cell BK277.out 2).trans rfl, (blk_cell BK277.out 3).trans rfl, (blk_cell BK277.out 4).trans rfl, (blk_cell BK277.out 5).trans rfl, (blk_cell BK277.out 6).trans rfl, (blk_cell BK277.out 7).trans rfl, (blk_cell BK277.out 8).trans rfl, (blk_cell BK277.out 9).trans rfl, (blk_cell BK277.out 10).trans rfl, (blk_cell BK277.out 11).trans rfl, ((HB.out.cell (World.block_lt_of_cell? w _ hw288_0)).trans hw288_0), ((HB.out.cell (World.block_lt_of_cell? w _ hw288_1)).trans hw288_1), ((HB.out.cell (World.block_lt_of_cell? w _ hw288_2)).trans hw288_2), ((HB.out.cell (World.block_lt_of_cell? w _ hw288_3)).trans hw288_3), ((HB.out.cell (World.block_lt_of_cell? w _ hw288_4)).trans hw288_4)⟩ (fun hHeld => ?_); refine with_tabW impl_apply.tab7 impl_apply.bits7 (fun HT_ HW_ => ?_)
              generalize w28.drew = w34 at BK277 HB hx288_0 hx288_1 hx288_2 hx288_3 hx288_4 hHeld ⊢
              refine pure_ (i := 0) (N := some 31) (v := ?_) (a' := ?_) #[true, false, false, false, false, false, false, false, false, false, false, false, false, false, false] rfl rfl (any_of HT_.out (by kernel_rfl)) (fun _ _ _ h => h) (Or.inl ⟨by rfl, ?_⟩) ?_ ?_
              rotate_left
              · intro w'
                go_simp
                with_reducible rfl
              rotate_left
              · simp only [Act.put, List.setIfInBounds_toArray, List.set_cons_zero, List.set_cons_succ, i64_w, i32_w]
                rfl
              refine pure_ (i := 2) (N := some 33) (v := ?_) (a' := ?_) #[true, false, true, false, false, false, false, false, false, false, false, false, false, false, false] rfl rfl (any_of HT_.out (by kernel_rfl)) (fun _ _ _ h => h) (Or.inl ⟨by rfl, ?_⟩) ?_ ?_
              rotate_left
              · intro w'
                go_simp
                with_reducible rfl
              rotate_left
              · simp only [Act.put, List.setIfInBounds_toArray, List.set_cons_zero, List.set_cons_succ, i64_w, i32_w]
                rfl
              refine pure_ (i := 3) (N := some 34) (v := ?_) (a' := ?_) #[true, false, true, true, false, false, false, false, false, false, false, false, false, false, false] rfl rfl (any_of HT_.out (by kernel_rfl)) (fun _ _ _ h => h) (Or.inl ⟨by rfl, ?_⟩) ?_ ?_
              rotate_left
              · intro w'
                go_simp
                with_reducible rfl
              rotate_left
              · simp only [Act.put, List.setIfInBounds_toArray, List.set_cons_zero, List.set_cons_succ, i64_w, i32_w]
                rfl
              refine take_ (i := 1) (N := some 32) (v := ?_) (a' := ?_) #[true, true, true, true, false, false, false, false, false, false, false, false, false, false, false] rfl rfl (take_ofW HT_.out HW_.out (by kernel_rfl)) (fun _ _ _ h => h) (Or.inl ⟨by rfl, ?_⟩) hHeld ?_ ?_
              rotate_left
              · rintro w' ⟨s0, s1, s2, s3, s4, s5, s6, s7, s8, s9, s10, s11, s12, s13, s14, s15, s16⟩
                go_simp
                with_reducible rfl
              rotate_left
              · simp only [Act.put, List.setIfInBounds_toArray, List.set_cons_zero, List.set_cons_succ, i64_w, i32_w]
                rfl
              refine pure_ (i := 4) (N := some 35) (v := ?_) (a' := ?_) #[true, true, true, true, true, false, false, false, false, false, false, false, false, false, false] rfl rfl (any_of HT_.out (by kernel_rfl)) (fun _ _ _ h => h) (Or.inl ⟨by rfl, ?_⟩) ?_ ?_
              rotate_left
              · intro w'
                go_simp
                with_reducible rfl
              rotate_left
              · simp only [Act.put, List.setIfInBounds_toArray, List.set_cons_zero, List.set_cons_succ, i64_w, i32_w]
                rfl
              refine pure_ (i := 5) (N := some 36) (v := ?_) (a' := ?_) #[true, true, true, true, true, true, false, false, false, false, false, false, false, false, false] rfl rfl (any_of HT_.out (by kernel_rfl)) (fun _ _ _ h => h) (Or.inl ⟨by rfl, ?_⟩) ?_ ?_
              rotate_left
              · intro w'
                go_simp
                with_reducible rfl
              rotate_left
              · simp only [Act.put, List.setIfInBounds_toArray, List.set_cons_zero, List.set_cons_succ, i64_w, i32_w]
                rfl
              refine pure_ (i := 6) (N := some 37) (v := ?_) (a' := ?_) #[true, true, true, true, true, true, true, false, false, false, false, false, false, false, false] rfl rfl (any_of HT_.out (by kernel_rfl)) (fun _ _ _ h => h) (Or.inl ⟨by rfl, ?_⟩) ?_ ?_
              rotate_left
              · intro w'
                go_simp
                with_reducible rfl
              rotate_left
              · simp only [Act.put, List.setIfInBounds_toArray, List.set_cons_zero, List.set_cons_succ, i64_w, i32_w]
                rfl
              refine pure_ (i := 7) (N := some 38) (v := ?_) (a' := ?_) #[true, true, true, true, true, true, true, true, false, false, false, false, false, false, false] rfl rfl (any_of HT_.out (by kernel_rfl)) (fun _ _ _ h => h) (Or.inl ⟨by rfl, ?_⟩) ?_ ?_
              rotate_left
              · intro w'
                go_simp
                with_reducible rfl
              rotate_left
              · simp only [Act.put, List.setIfInBounds_toArray, List.set_cons_zero, List.set_cons_succ, i64_w, i32_w]
                rfl
              refine pure_ (i := 11) (N := some 42) (v := ?_) (a' := ?_) #[true, true, true, true, true, true, true, true, false, false, false, true, false, false, false] rfl rfl (any_of HT_.out (by kernel_rfl)) (fun _ _ _ h => h) (Or.inl ⟨by rfl, ?_⟩) ?_ ?_
              rotate_left
              · intro w'
                go_simp
                with_reducible rfl
              rotate_left
              · simp only [Act.put, List.setIfInBounds_toArray, List.set_cons_zero, List.set_cons_succ, i64_w, i32_w]
                rfl
              refine take_ (i := 8) (N := some 39) (v := ?_) (a' := ?_) #[true, true, true, true, true, true, true, true, true, false, false, true, false, false, false] rfl rfl (take_ofW HT_.out HW_.out (by kernel_rfl)) (fun _ _ _ h => h) (Or.inl ⟨by rfl, ?_⟩) hHeld ?_ ?_
              rotate_left
              · rintro w' ⟨s0, s1, s2, s3, s4, s5, s6, s7, s8, s9, s10, s11, s12, s13, s14, s15, s16⟩
                go_simp
                with_reducible rfl
              rotate_left
              · simp only [Act.put, List.setIfInBounds_toArray, List.set_cons_zero, List.set_cons_succ, i64_w, i32_w]
                rfl
              refine pure_ (i := 9) (N := some 40) (v := ?_) (a' := ?_) #[true, true, true, true, true, true, true, true, true, true, false, true, false, false, false] rfl rfl (any_of HT_.out (by kernel_rfl)) (fun _ _ _ h => h) (Or.inl ⟨by rfl, ?_⟩) ?_ ?_
              rotate_left
              · intro w'
                go_simp
                with_reducible rfl
              rotate_left
              · simp only [Act.put, List.setIfInBounds_toArray, List.set_cons_zero, List.set_cons_succ, i64_w, i32_w]
                rfl
              refine take_ (i := 10) (N := some 41) (v := ?_) (a' := ?_) #[true, true, true, true, true, true, true, true, true, true, true, true, false, false, false] rfl rfl (take_ofW HT_.out HW_.out (by kernel_rfl)) (fun _ _ _ h => h) (Or.inl ⟨by rfl, ?_⟩) hHeld ?_ ?_
              rotate_left
              · rintro w' ⟨s0, s1, s2, s3, s4, s5, s6, s7, s8, s9, s10, s11, s12, s13, s14, s15, s16⟩
                go_simp
                with_reducible rfl
              rotate_left
              · simp only [Act.put, List.setIfInBounds_toArray, List.set_cons_zero, List.set_cons_succ, i64_w, i32_w]
                rfl
              refine take_ (i := 12) (N := some 43) (v := ?_) (a' := ?_) #[true, true, true, true, true, true, true, true, true, true, true, true, true, false, false] rfl rfl (take_ofW HT_.out HW_.out (by kernel_rfl)) (fun _ _ _ h => h) (Or.inl ⟨by rfl, ?_⟩) hHeld ?_ ?_
              rotate_left
              · rintro w' ⟨s0, s1, s2, s3, s4, s5, s6, s7, s8, s9, s10, s11, s12, s13, s14, s15, s16⟩
                go_simp
                with_reducible rfl
              rotate_left
              · simp only [Act.put, List.setIfInBounds_toArray, List.set_cons_zero, List.set_cons_succ, i64_w, i32_w]
                rfl
              refine pure_ (i := 13) (N := some 44) (v := ?_) (a' := ?_) #[true, true, true, true, true, true, true, true, true, true, true, true, true, true, false] rfl rfl (any_of HT_.out (by kernel_rfl)) (fun _ _ _ h => h) (Or.inl ⟨by rfl, ?_⟩) ?_ ?_
              rotate_left
              · intro w'
                go_simp
                with_reducible rfl
              rotate_left
              · simp only [Act.put, List.setIfInBounds_toArray, List.set_cons_zero, List.set_cons_succ, i64_w, i32_w]
                rfl
              refine pure_ (i := 14) (N := some 45) (v := ?_) (a' := ?_) #[true, true, true, true, true, true, true, true, true, true, true, true, true, true, true] rfl rfl (any_of HT_.out (by kernel_rfl)) (fun _ _ _ h => h) (Or.inl ⟨by rfl, ?_⟩) ?_ ?_
              rotate_left
              · intro w'
                go_simp
                with_reducible rfl
              rotate_left
              · simp only [Act.put, List.setIfInBounds_toArray, List.set_cons_zero, List.set_cons_succ, i64_w, i32_w]
                rfl
              refine done_ (done_of HT_.out (by kernel_rfl)) ?_
              try go_wp2
              go_meet
              case rel => exact ⟨_, ((!(((rd_T26 l0 a1_1).f0) == a1_2) || (!(((rd_T26 l0 a1_1).f1) == a1_3) || (!(((rd_T26 l0 a1_1).f2) == a1_4) || (!(((rd_T26 l0 a1_1).f3) == a1_5) || (!(((rd_T26 l0 a1_1).f4) == a1_6))))))), (by first | rfl | (simp; done) | (simp [*]; done)), H', ⟨by first | omega | exact Nat.le_refl _⟩, ⟨by (with_reducible repeat (first | refine blk_drewN ?_ _ | refine blk_drew ?_ | refine blk_alloc ?_ _)); exact BK277.out⟩, ⟨(upB1 HB.out GE277.out)⟩⟩
            · rw [if_neg c33] at H
              exact absurd H (by simp)
          · rw [if_neg c32] at H
            exact absurd H (by simp)
      case rest =>
        clear HC25
        try clear c4
        try clear c5
        try clear c5b0
        try clear c5b1
        try clear c11
        try clear c14
        try clear c30
        try clear c30b0
        try clear c32
        try clear c32b0
        try clear c33
        try clear c33b0
        try clear hcz27_0
        try clear hcz27_1
        try clear hcz27_10
        try clear hcz27_11
        try clear hcz27_2
        try clear hcz27_3
        try clear hcz27_4
        try clear hcz27_5
        try clear hcz27_6
        try clear hcz27_7
        try clear hcz27_8
        try clear hcz27_9
        try clear hcz29_0
        try clear hcz29_1
        try clear hcz29_10
        try clear hcz29_11
        try clear hcz29_2
        try clear hcz29_3
        try clear hcz29_4
        try clear hcz29_5
        try clear hcz29_6
        try clear hcz29_7
        try clear hcz29_8
        try clear hcz29_9
        try clear hfz12_3
        try clear hfz12_4
        try clear hfz12_5
        try clear hfz12_6
        try clear hfz12_7
        try clear hfz12_8
        try clear hfz12_9
        try clear hfz13_0
        try clear hfz13_1
        try clear hfz13_10
        try clear hfz13_11
        try clear hfz13_2
        try clear hfz13_3
        try clear hfz13_4
        try clear hfz13_5
        try clear hfz13_6
        try clear hfz13_7
        try clear hfz13_8
        try clear hfz13_9
        try clear hfz27_0
        try clear hfz27_1
        try clear hfz27_10
        try clear hfz27_11
        try clear hfz27_2
        try clear hfz27_3
        try clear hfz27_4
        try clear hfz27_5
        try clear hfz27_6
        try clear hfz27_7
        try clear hfz27_8
        try clear hfz27_9
        try clear hfz29_0
        try clear hfz29_1
        try clear hfz29_10
        try clear hfz29_11
        try clear hfz29_2
        try clear hfz29_3
        try clear hfz29_4
        try clear hfz29_5
        try clear hfz29_6
        try clear hfz29_7
        try clear hfz29_8
        try clear hfz29_9
        try clear hfz8_0
        try clear hfz8_1
        try clear hfz8_10
        try clear hfz8_11
        try clear hfz8_2
        try clear hfz8_3
        try clear hfz8_4
        try clear hfz8_5
        try clear hfz8_6
        try clear hfz8_7
        try clear hfz8_8
        try clear hfz8_9
        try clear hx288_0
        try clear hx288_1
        try clear hx288_2
        try clear hx288_3
        try clear hx288_4
        try clear p288
        try clear q288
        obtain ⟨kq, x45_24, rfl, HA, HJ24, BK277, HB⟩ := hcut
        cases kq with
        | zero => exact absurd HA.out (by simp [impl_apply.j1])
        | succ kj24 =>
          have H := HA.out
          clear HA
          simp only [impl_apply.j1] at H
          by_cases c35 : x45_24 = true
          · subst c35
            have H1 : (some (([] : List (S26)), false)) = some (r1, r2) := by rw [if_pos rfl] at H; exact H
            clear H
            have H := H1
            clear H1
            simp only [Option.some.injEq, Prod.mk.injEq] at H
            obtain ⟨rfl, rfl⟩ := H
            go_wp2
            go_ret2
            exact ⟨_, by first | rfl | (simp [errW_none, errW_some] <;> rfl) | (simp [*, errW_none, errW_some] <;> rfl), by first | exact Kd.R_nil _ _ _ _ _ | exact Kd.N_nil _ _ _ _ _ | exact Kd.V_nil _ _ _ _ _ | exact Kd.Q_nil _ _ _ _ _ | exact Kd.S_nil _ _ _ _ _, (upB1 HB.out GE277.out)⟩
          · replace c35 := Bool.eq_false_iff.mpr c35
            subst c35
            have H1 : (if a1_0 = 2 then ((impl_leaving.f l0 a1_1).bind fun t289 => (some (t289, true))) else ((impl_Leg_91.f l0).bind fun t292 => (if 0 ≤ a1_1 then (if a1_1 < (t292.length : Int) then (some ((t292.set (a1_1 : Int).toNat (⟨a1_7, a1_8, a1_9, a1_10, a1_11⟩ : S26)), true)) else (none)) else (none)))) = some (r1, r2) := by rw [if_neg (show ¬ (false = true) by decide)] at H; exact H
            clear H
            have H := H1
            clear H1
            by_cases c36 : a1_0 = 2
            · rw [if_pos c36] at H
              have c36b0 : (a1_0 == 2) = true := beq_iff_eq.mpr c36
              have c36b1 : (a1_0 != 2) = false := bne_eq_false_iff_eq.mpr c36
              clear c36
              replace H := Option.bind_eq_some_iff.mp H
              obtain ⟨t289, A370, H⟩ := H
              replace H : (some (t289, true)) = some (r1, r2) := H
              have A37 := Aside0.mk A370
              clear A370
              simp only [Option.some.injEq, Prod.mk.injEq] at H
              obtain ⟨rfl, rfl⟩ := H
              have hcz38_0 := ci BK277.out 0 a1_0 rfl
              have hcz38_1 := ci BK277.out 1 a1_1 rfl
              have hcz38_2 := ci BK277.out 2 a1_2 rfl
              have hcz38_3 := ci BK277.out 3 a1_3 rfl
              have hcz38_4 := ci BK277.out 4 a1_4 rfl
              have hcz38_5 := ci BK277.out 5 a1_5 rfl
              have hcz38_6 := ci BK277.out 6 a1_6 rfl
              have hcz38_7 := ci BK277.out 7 a1_7 rfl
              have hcz38_8 := ci BK277.out 8 a1_8 rfl
              have hcz38_9 := ci BK277.out 9 a1_9 rfl
              have hcz38_10 := ci BK277.out 10 a1_10 rfl
              have hcz38_11 := ci BK277.out 11 a1_11 rfl
              have hfz38_0 := fun j_ : Nat => blk_frozen BK277.out j_
              go_wp2_with (first | ((with_reducible refine gate_callee (f := 92) rfl ?_); refine goesL_ (some 52) rfl rfl Try.func92 (by kernel_rfl) rfl #[.slice A0 l0.length c0, .int .i64 a1_1] rfl argsB ?_; (with_reducible refine (impl_leaving.calls _ _ l0 a1_1 t289 _ ?side1 ?side2 A37.out).mono ?_); (case side1 => repeat (first | exact (Kd.C_below HR0.out HB.out) | (with_reducible refine Kd.C_alloc ?_ _) | (with_reducible refine Kd.C_drewN ?_ _) | (with_reducible refine Kd.C_drew ?_))); (case side2 => exact HC0.out); rintro e w39 ⟨v290, rfl, ho0, hb⟩; refine ⟨_, rfl, ?_⟩; have n0_ := Aside0.mk (Kd.R_lower ho0 (below_size (upB1 HB.out GE277.out))); have n1_ := Aside0.mk (blk_below (g := gb277) (o := .cells #[.int .i64 a1_0, .int .i64 a1_1, .int .i64 a1_2, .int .i64 a1_3, .int .i64 a1_4, .int .i64 a1_5, .int .i64 a1_6, .int .i64 a1_7, .int .i64 a1_8, .int .i64 a1_9, .int .i64 a1_10, .int .i64 a1_11] 28 (0, 0)) (upK BK277.out) hb); have n2_ := Aside0.mk (below_step (upB1 HB.out GE277.out) hb); clear BK277; clear HB; have HO291 := n0_; have BK277 := n1_; have HB := n2_; clear n0_ n1_ n2_; (try clear hb); (try clear hk); (try clear ho0)))
              go_ret2
              exact ⟨_, by first | rfl | (simp [errW_none, errW_some] <;> rfl) | (simp [*, errW_none, errW_some] <;> rfl), by (with_reducible repeat (first | apply Kd.R_alloc | apply Kd.R_drewN | apply Kd.R_drew)); exact HO291.out, (upB1 HB.out GE277.out)⟩
            · rw [if_neg c36] at H
              have c36b0 : (a1_0 == 2) = false := beq_eq_false_iff_ne.mpr c36
              have c36b1 : (a1_0 != 2) = true := bne_iff_ne.mpr c36
              replace H := Option.bind_eq_some_iff.mp H
              obtain ⟨t292, A400, H⟩ := H
              replace H : (if 0 ≤ a1_1 then (if a1_1 < (t292.length : Int) then (some ((t292.set (a1_1 : Int).toNat (⟨a1_7, a1_8, a1_9, a1_10, a1_11⟩ : S26)), true)) else (none)) else (none)) = some (r1, r2) := H
              have A40 := Aside0.mk A400
              clear A400
              by_cases c41 : 0 ≤ a1_1
              · rw [if_pos c41] at H
                have c41b0 : decide (0 ≤ a1_1) = true := decide_eq_true c41
                clear c41
                by_cases c42 : a1_1 < (t292.length : Int)
                · rw [if_pos c42] at H
                  have c42b0 : decide (a1_1 < (t292.length : Int)) = true := decide_eq_true c42
                  clear c42
                  obtain ⟨y295, hy295⟩ : ∃ y_ : List (S26), y_ = (t292.set (a1_1 : Int).toNat (⟨a1_7, a1_8, a1_9, a1_10, a1_11⟩ : S26)) := ⟨_, rfl⟩
                  replace H : (some (y295, true)) = some (r1, r2) := by first | (rw [hy295]; with_reducible exact H) | (have H2_ := (Option.bind_some _ _).symm.trans H; rw [hy295]; with_reducible exact H2_) | (have H2_ := (Option.bind_some _ _).symm.trans H; with_reducible exact H2_) | with_reducible exact H | (rw [hy295]; exact H) | exact H
                  have Ny295 := Aside0.mk hy295
                  clear hy295
                  simp only [Option.some.injEq, Prod.mk.injEq] at H
                  obtain ⟨rfl, rfl⟩ := H
                  have hcz44_0 := ci BK277.out 0 a1_0 rfl
                  have hcz44_1 := ci BK277.out 1 a1_1 rfl
                  have hcz44_2 := ci BK277.out 2 a1_2 rfl
                  have hcz44_3 := ci BK277.out 3 a1_3 rfl
                  have hcz44_4 := ci BK277.out 4 a1_4 rfl
                  have hcz44_5 := ci BK277.out 5 a1_5 rfl
                  have hcz44_6 := ci BK277.out 6 a1_6 rfl
                  have hcz44_7 := ci BK277.out 7 a1_7 rfl
                  have hcz44_8 := ci BK277.out 8 a1_8 rfl
                  have hcz44_9 := ci BK277.out 9 a1_9 rfl
                  have hcz44_10 := ci BK277.out 10 a1_10 rfl
                  have hcz44_11 := ci BK277.out 11 a1_11 rfl
                  have hfz44_0 := fun j_ : Nat => blk_frozen BK277.out j_
                  go_wp2_with (first | ((with_reducible refine gate_callee (f := 91) rfl ?_); refine goesL_ (some 54) rfl rfl Try.func91 (by kernel_rfl) rfl #[.slice A0 l0.length c0] rfl argsB ?_; (with_reducible refine (impl_Leg_91.calls _ _ l0 t292 _ ?side1 ?side2 A40.out).mono ?_); (case side1 => repeat (first | exact (Kd.C_below HR0.out HB.out) | (with_reducible refine Kd.C_alloc ?_ _) | (with_reducible refine Kd.C_drewN ?_ _) | (with_reducible refine Kd.C_drew ?_))); (case side2 => exact HC0.out); rintro e w45 ⟨v293, rfl, ho0, hb⟩; refine ⟨_, rfl, ?_⟩; have n0_ := Aside0.mk (Kd.R_lower ho0 (below_size (upB1 HB.out GE277.out))); have n1_ := Aside0.mk (blk_below (g := gb277) (o := .cells #[.int .i64 a1_0, .int .i64 a1_1, .int .i64 a1_2, .int .i64 a1_3, .int .i64 a1_4, .int .i64 a1_5, .int .i64 a1_6, .int .i64 a1_7, .int .i64 a1_8, .int .i64 a1_9, .int .i64 a1_10, .int .i64 a1_11] 28 (0, 0)) (upK BK277.out) hb); have n2_ := Aside0.mk (below_step (upB1 HB.out GE277.out) hb); clear BK277; clear HB; have HO294 := n0_; have BK277 := n1_; have HB := n2_; clear n0_ n1_ n2_; (try clear hb); (try clear hk); (try clear ho0); have hcz46_0 := ci BK277.out 0 a1_0 rfl; have hcz46_1 := ci BK277.out 1 a1_1 rfl; have hcz46_2 := ci BK277.out 2 a1_2 rfl; have hcz46_3 := ci BK277.out 3 a1_3 rfl; have hcz46_4 := ci BK277.out 4 a1_4 rfl; have hcz46_5 := ci BK277.out 5 a1_5 rfl; have hcz46_6 := ci BK277.out 6 a1_6 rfl; have hcz46_7 := ci BK277.out 7 a1_7 rfl; have hcz46_8 := ci BK277.out 8 a1_8 rfl; have hcz46_9 := ci BK277.out 9 a1_9 rfl; have hcz46_10 := ci BK277.out 10 a1_10 rfl; have hcz46_11 := ci BK277.out 11 a1_11 rfl; have hfz46_0 := fun j_ : Nat => blk_frozen BK277.out j_; have p43 : 0 ≤ (a1_1 : Int) := of_decide_eq_true asmB; have q43 : (a1_1 : Int) < ((t292.length : Int) : Int) := of_decide_eq_true asmB; obtain ⟨go43, co43, eo43, gb43, gl43, cl43, HG43⟩ := Kd.R_form HO294.out (by omega); (first | cases eo43 | (injection eo43 with ea_ en_ ec_; (first | subst ea_ | (injection ea_ with ea_; subst ea_)); subst ec_; clear en_)); have GB43 := Aside0.mk gb43; have GG43 := Aside0.mk HG43; clear gb43 gl43 HG43; obtain ⟨ce43, hcl43, hM43, hcc43, hfr43⟩ := Kd.R_elem HO294.out z26 (a1_1 : Int) p43 q43; obtain rfl := k26_openM hM43; have hx43_0 : w45.cell? ⟨go43, (a1_1 : Int).toNat * 5, none⟩ = some (.int .i64 ((rd_T26 t292 a1_1).f0)) := hcc43 0 _ rfl; have hx43_1 : w45.cell? ⟨go43, (a1_1 : Int).toNat * 5 + 1, none⟩ = some (.int .i64 ((rd_T26 t292 a1_1).f1)) := hcc43 1 _ rfl; have hx43_2 : w45.cell? ⟨go43, (a1_1 : Int).toNat * 5 + 2, none⟩ = some (.int .i64 ((rd_T26 t292 a1_1).f2)) := hcc43 2 _ rfl; have hx43_3 : w45.cell? ⟨go43, (a1_1 : Int).toNat * 5 + 3, none⟩ = some (.int .i64 ((rd_T26 t292 a1_1).f3)) := hcc43 3 _ rfl; have hx43_4 : w45.cell? ⟨go43, (a1_1 : Int).toNat * 5 + 4, none⟩ = some (.int .i64 ((rd_T26 t292 a1_1).f4)) := hcc43 4 _ rfl; have hf43_0 : w45.frozen? ⟨go43, (a1_1 : Int).toNat * 5, none⟩ = false := hfr43 0; have hf43_1 : w45.frozen? ⟨go43, (a1_1 : Int).toNat * 5 + 1, none⟩ = false := hfr43 1; have hf43_2 : w45.frozen? ⟨go43, (a1_1 : Int).toNat * 5 + 2, none⟩ = false := hfr43 2; have hf43_3 : w45.frozen? ⟨go43, (a1_1 : Int).toNat * 5 + 3, none⟩ = false := hfr43 3; have hf43_4 : w45.frozen? ⟨go43, (a1_1 : Int).toNat * 5 + 4, none⟩ = false := hfr43 4; clear hcl43 hcc43 hfr43 hM43; replace p43 := eq_true p43; replace q43 := eq_true q43; have HX47 := Aside0.mk (show Kd.R k26 26 w45 w.heap.size (fun _ => True) (.slice (some ⟨go43, 0, none⟩) t292.length co43) t292 from (upR HO294.out)); obtain ⟨ce47, hcl47, hM47, hcc47, hfr47⟩ := Kd.R_elem HX47.out z26 (a1_1 : Int) (of_decide_eq_true asmB) (by have h_ : (a1_1 : Int) < ((t292.length : Int) : Int) := of_decide_eq_true asmB; first | exact h_ | (have e_ := (Kd.R_reads' HO294.out).1; omega) | simpa using h_); obtain rfl := k26_openM hM47; have HP47 := Kd.R_seg HX47.out (a1_1 : Int) (of_decide_eq_true asmB) (by have h_ : (a1_1 : Int) < ((t292.length : Int) : Int) := of_decide_eq_true asmB; first | exact h_ | (have e_ := (Kd.R_reads' HO294.out).1; omega) | simpa using h_) (seg := [.int .i64 a1_7, .int .i64 a1_8, .int .i64 a1_9, .int .i64 a1_10, .int .i64 a1_11]) (j := 0) hcl47 hcc47 (show 5 ≤ 5 from by decide) (x' := (⟨a1_7, a1_8, a1_9, a1_10, a1_11⟩ : S26)) (k26_mkM _ _ _ (⟨a1_7, a1_8, a1_9, a1_10, a1_11⟩ : S26) ) (fun _ hk => hk); have hx47_0 := hcc47 0 _ rfl; (try simp only [show (k26).sz = 5 from rfl, Nat.mul_one, Nat.add_zero] at hx47_0); have hf47_0 := hfr47 0; (try simp only [show (k26).sz = 5 from rfl, Nat.mul_one, Nat.add_zero] at hf47_0); have hx47_1 := hcc47 1 _ rfl; (try simp only [show (k26).sz = 5 from rfl, Nat.mul_one, Nat.add_zero] at hx47_1); have hf47_1 := hfr47 1; (try simp only [show (k26).sz = 5 from rfl, Nat.mul_one, Nat.add_zero] at hf47_1); have hx47_2 := hcc47 2 _ rfl; (try simp only [show (k26).sz = 5 from rfl, Nat.mul_one, Nat.add_zero] at hx47_2); have hf47_2 := hfr47 2; (try simp only [show (k26).sz = 5 from rfl, Nat.mul_one, Nat.add_zero] at hf47_2); have hx47_3 := hcc47 3 _ rfl; (try simp only [show (k26).sz = 5 from rfl, Nat.mul_one, Nat.add_zero] at hx47_3); have hf47_3 := hfr47 3; (try simp only [show (k26).sz = 5 from rfl, Nat.mul_one, Nat.add_zero] at hf47_3); have hx47_4 := hcc47 4 _ rfl; (try simp only [show (k26).sz = 5 from rfl, Nat.mul_one, Nat.add_zero] at hx47_4); have hf47_4 := hfr47 4; (try simp only [show (k26).sz = 5 from rfl, Nat.mul_one, Nat.add_zero] at hf47_4); clear hcl47 hcc47 hfr47 hM47) | ((with_reducible refine gate_store (t := 26) (p := 60) rfl ?_); refine store_event (t := 26) (p := 60) (v := ?vo_w48) (w1 := (((((w45.setCell ⟨go43, (a1_1 : Int).toNat * 5, none⟩ (.int .i64 a1_7)).setCell ⟨go43, (a1_1 : Int).toNat * 5 + 1, none⟩ (.int .i64 a1_8)).setCell ⟨go43, (a1_1 : Int).toNat * 5 + 2, none⟩ (.int .i64 a1_9)).setCell ⟨go43, (a1_1 : Int).toNat * 5 + 3, none⟩ (.int .i64 a1_10)).setCell ⟨go43, (a1_1 : Int).toNat * 5 + 4, none⟩ (.int .i64 a1_11))) ?hg ?ho ?hn ?hr ?_; (case ho => rfl); (case hg => rfl); (case hn => rfl); (case hr => first | (go_simp; done) | (go_simp; rfl)); intro w48 hw; have hg : w45.grownBy w48 (some go43) := (by rw [hw]; exact HP47.2); have hp_ : Kd.R k26 26 w48 w.heap.size (fun _ => True) (.slice (some ⟨go43, 0, none⟩) t292.length co43) y295 := (by rw [hw, Ny295.out]; exact HP47.1); clear HP47; have n0_ := Aside0.mk (blk_grown (g := gb277) (o := .cells #[.int .i64 a1_0, .int .i64 a1_1, .int .i64 a1_2, .int .i64 a1_3, .int .i64 a1_4, .int .i64 a1_5, .int .i64 a1_6, .int .i64 a1_7, .int .i64 a1_8, .int .i64 a1_9, .int .i64 a1_10, .int .i64 a1_11] 28 (0, 0)) (upK BK277.out) hg (Kd.R_ne HO294.out BK277.out (by decide))); have n1_ := Aside0.mk (hp_); have n2_ := Aside0.mk ((by rw [hw]; exact below_set (below_set (below_set (below_set (below_set (HB.out) GB43.out) GB43.out) GB43.out) GB43.out) GB43.out : Below w.heap.size w w48)); clear BK277; clear HO294; clear HB; have BK277 := n0_; have HO294 := n1_; have HB := n2_; clear n0_ n1_ n2_; clear hg hw hp_))
                  go_ret2
                  exact ⟨_, by first | rfl | (simp [errW_none, errW_some] <;> rfl) | (simp [*, errW_none, errW_some] <;> rfl), by (with_reducible repeat (first | apply Kd.R_alloc | apply Kd.R_drewN | apply Kd.R_drew)); exact HO294.out, (upB1 HB.out GE277.out)⟩
                · rw [if_neg c42] at H
                  exact absurd H (by simp)
              · rw [if_neg c41] at H
                exact absurd H (by simp)
  · replace c4 := Bool.eq_false_iff.mpr c4
    subst c4
    have H1 : (some (([] : List (S26)), false)) = some (r1, r2) := by rw [if_neg (show ¬ (false = true) by decide)] at H; exact H
    clear H
    have H := H1
    clear H1
    simp only [Option.some.injEq, Prod.mk.injEq] at H
    obtain ⟨rfl, rfl⟩ := H
    go_enter Try.func67, Try.ntmps67
    go_wp2_with (first | ((with_reducible refine gate_dst (N := 3) rfl ?_); (try (refine gate_guard (by rfl) ?_; dsimp only)); refine box_event ?hg (N := 3) ?hd (cs := #[.int .i64 a1_0, .int .i64 a1_1, .int .i64 a1_2, .int .i64 a1_3, .int .i64 a1_4, .int .i64 a1_5, .int .i64 a1_6, .int .i64 a1_7, .int .i64 a1_8, .int .i64 a1_9, .int .i64 a1_10, .int .i64 a1_11]) (t := 28) ?hr ?_; (case hd => rfl); (case hg => rfl); (case hr => first | (go_simp; done) | (go_simp; rfl)); intro gb277 hg w49 hbox hb; have n0_ := Aside0.mk (below_step (upB HB.out) hb); have n1_ := Aside0.mk (hbox); have n2_ := Aside0.mk ((by rw [hg]; exact (below_size (upB HB.out)) : w.heap.size ≤ gb277)); have n3_ := Aside0.mk ((by rw [hg]; exact (below_size (upB HB.out)) : w.heap.size ≤ gb277)); clear HB; have HB := n0_; have BK277 := n1_; have GW277 := n2_; have GE277 := n3_; clear n0_ n1_ n2_ n3_; clear hb hbox hg; have hcz50_0 := ci BK277.out 0 a1_0 rfl; have hcz50_1 := ci BK277.out 1 a1_1 rfl; have hcz50_2 := ci BK277.out 2 a1_2 rfl; have hcz50_3 := ci BK277.out 3 a1_3 rfl; have hcz50_4 := ci BK277.out 4 a1_4 rfl; have hcz50_5 := ci BK277.out 5 a1_5 rfl; have hcz50_6 := ci BK277.out 6 a1_6 rfl; have hcz50_7 := ci BK277.out 7 a1_7 rfl; have hcz50_8 := ci BK277.out 8 a1_8 rfl; have hcz50_9 := ci BK277.out 9 a1_9 rfl; have hcz50_10 := ci BK277.out 10 a1_10 rfl; have hcz50_11 := ci BK277.out 11 a1_11 rfl; have hfz50_0 := fun j_ : Nat => blk_frozen BK277.out j_) | ((with_reducible refine gate_callee (f := 61) rfl ?_); refine goesL_ (some 8) rfl rfl Try.func61 (by kernel_rfl) rfl #[.agg #[.int .i64 a1_0, .int .i64 a1_1, .int .i64 a1_2, .int .i64 a1_3, .int .i64 a1_4, .int .i64 a1_5, .int .i64 a1_6, .int .i64 a1_7, .int .i64 a1_8, .int .i64 a1_9, .int .i64 a1_10, .int .i64 a1_11]] rfl argsB ?_; (with_reducible refine (impl_isEdit.calls a1_0 a1_1 a1_2 a1_3 a1_4 a1_5 a1_6 a1_7 a1_8 a1_9 a1_10 a1_11 false _ A3.out).mono ?_); rintro e w51 ⟨rfl, hb⟩; refine ⟨_, rfl, ?_⟩; have n0_ := Aside0.mk (blk_below (g := gb277) (o := .cells #[.int .i64 a1_0, .int .i64 a1_1, .int .i64 a1_2, .int .i64 a1_3, .int .i64 a1_4, .int .i64 a1_5, .int .i64 a1_6, .int .i64 a1_7, .int .i64 a1_8, .int .i64 a1_9, .int .i64 a1_10, .int .i64 a1_11] 28 (0, 0)) (upK BK277.out) hb); have n1_ := Aside0.mk (below_step (upB1 HB.out GE277.out) hb); clear BK277; clear HB; have BK277 := n0_; have HB := n1_; clear n0_ n1_; (try clear hb); (try clear hk)))
    go_ret2
    exact ⟨_, by first | rfl | (simp [errW_none, errW_some] <;> rfl) | (simp [*, errW_none, errW_some] <;> rfl), by first | exact Kd.R_nil _ _ _ _ _ | exact Kd.N_nil _ _ _ _ _ | exact Kd.V_nil _ _ _ _ _ | exact Kd.Q_nil _ _ _ _ _ | exact Kd.S_nil _ _ _ _ _, (upB1 HB.out GE277.out)⟩

end Go.Proofs.Ytinelmmnajelaaa.QFnExactVersionAt
