/- Contracts of Go functions that FnRenamings reaches: the call computes what the plain function says. No condition. -/
import Derived.Test.YtfaojmabalplfaaQFnRenamingsx0
import Derived.Test.YtfaojmabalplfaaQFnRenamingsx2
import Derived.Test.YtfaojmabalplfaaQFnRenamingsx10
namespace Go.Proofs.Ytfaojmabalplfaa.QFnRenamings
open Go.RowKit Go.Proofs.YtfaojmabalplfaaW.PrintWords Go.Proofs.YtfaojmabalplfaaW.PrintLast Go.Proofs.YtfaojmabalplfaaW.PrintMore
attribute [local go_sem] max2_int min2_int max_two min_two max_three min_three max_four min_four   -- for this text's walks alone
set_option linter.unusedVariables false
set_option linter.unusedSimpArgs false

/-! ### spec_l4Shift: function 103 -/
def spec_l4Shift.f (a0_0 a0_1 a0_2 a0_3 a0_4 : Int) : Option (Int × Int × Int) := (spec_l2Cosine.f a0_4).bind fun t334 => ((spec_l2Div.f (wrap64 (a0_2 * t334)) 1000).bind fun t335 => ((spec_l2Sine.f a0_3).bind fun t336 => ((spec_l2Div.f (wrap64 (t335 * t336)) 1000).bind fun t337 => ((spec_l2Cosine.f a0_3).bind fun t338 => ((spec_l2Div.f (wrap64 (t335 * t338)) 1000).bind fun t339 => ((spec_l2Sine.f a0_4).bind fun t340 => ((spec_l2Div.f (wrap64 (a0_2 * t340)) 1000).bind fun t341 => (some (t337, t339, t341)))))))))
def spec_l4Shift.T1 : Bool × List (List Nat × List Nat) := (true, [([], []), ([0], [0]), ([], []), ([2], [2]), ([3], [3]), ([1, 4], [1, 4]), ([5, 4], [5]), ([6, 6, 0, 1, 2, 3, 4, 5, 6], [6])])
def spec_l4Shift.B1 : List Nat := [0, 1, 0, 4, 12, 31, 63, 127]
theorem spec_l4Shift.tab1 : rtab .any (opsOf Try.f103 1) = spec_l4Shift.T1 := by kernel_rfl
theorem spec_l4Shift.bits1 : waitsOk spec_l4Shift.T1.2 spec_l4Shift.B1 = true := by kernel_rfl
def spec_l4Shift.T2 : Bool × List (List Nat × List Nat) := (true, [([], []), ([], []), ([1], [1]), ([2], [2]), ([0, 3], [0, 3]), ([4, 3], [4]), ([], []), ([], []), ([7], [7]), ([8, 5], [8]), ([6, 9], [6, 9]), ([10, 9], [10]), ([], []), ([12], [12]), ([], []), ([14], [14]), ([15, 11], [15]), ([13, 16], [13, 16]), ([17, 16], [17]), ([5, 11, 18], [5, 11, 18]), ([19, 18, 0, 1, 2, 3, 4, 5, 6, 7, 8, 9, 10, 11, 12, 13, 14, 15, 16, 17, 18, 19], [19])])
def spec_l4Shift.B2 : List Nat := [0, 0, 2, 6, 15, 31, 0, 0, 128, 447, 1023, 2047, 0, 4096, 0, 16384, 53247, 131071, 262143, 524287, 1048575]
theorem spec_l4Shift.tab2 : rtab .any (opsOf Try.f103 2) = spec_l4Shift.T2 := by kernel_rfl
theorem spec_l4Shift.bits2 : waitsOk spec_l4Shift.T2.2 spec_l4Shift.B2 = true := by kernel_rfl
set_option maxHeartbeats 8000000 in
set_option maxRecDepth 100000 in
theorem spec_l4Shift.calls (a0_0 a0_1 a0_2 a0_3 a0_4 r1 r2 r3 : Int) (w : World) (h : spec_l4Shift.f a0_0 a0_1 a0_2 a0_3 a0_4 = some (r1, r2, r3)) :
  Calls Try.prog 103 #[.agg #[.int .i64 a0_0, .int .i64 a0_1, .int .i64 a0_2, .int .i64 a0_3, .int .i64 a0_4]] w fun e w' => e = .returned (.agg #[.int .i64 r1, .int .i64 r2, .int .i64 r3]) ∧ Below w.heap.size w w' := by
 have hu70 := Try.underlying70
 have hu103 := Try.underlying103
 have HB := Aside0.mk (Below.refl w.heap.size w)
 have H := h
 clear h
 unfold spec_l4Shift.f at H
 replace H := bA H
 obtain ⟨t334, A2, H⟩ := H
 replace H := bA H
 obtain ⟨t335, A3, H⟩ := H
 replace H := bA H
 obtain ⟨t336, A4, H⟩ := H
 replace H := bA H
 obtain ⟨t337, A5, H⟩ := H
 replace H := bA H
 obtain ⟨t338, A6, H⟩ := H
 replace H := bA H
 obtain ⟨t339, A7, H⟩ := H
 replace H := bA H
 obtain ⟨t340, A8, H⟩ := H
 replace H := bA H
 obtain ⟨t341, A9, H⟩ := H
 simp only [Option.some.injEq, Prod.mk.injEq] at H
 obtain ⟨rfl, rfl, rfl⟩ := H
 go_enter Try.func103, Try.ntmps103
 try go_wp2_with (first | ((with_reducible refine gD 1 ?_); refine bxE 1 70 #[.int .i64 a0_0, .int .i64 a0_1, .int .i64 a0_2, .int .i64 a0_3, .int .i64 a0_4] fun gb332 w10 hg hbox hb => ?_; have BK332 := Aside0.mk hbox; have GE332 := gB HB hg; replace HB := uB HB hb; clear hb hbox hg) | ((with_reducible refine gD 2 ?_); refine bxE 2 103 #[.int .i64 0, .int .i64 0, .int .i64 0] fun gb333 w11 hg hbox hb => ?_; have BK333 := Aside0.mk hbox; have GE333 := gB HB hg; have ⟨NB332_333, NB333_332⟩ := nB BK332 hg; replace BK332 := uK BK332 hb; replace HB := uB HB hb; clear hb hbox hg))
 replace BK332 := dK BK332
 replace BK333 := dK BK333
 replace HB := Aside0.mk (below_drew1 HB.out)
 refine sA (n := 8) (S := fun w' => w'.cell? ⟨gb332, 0, none⟩ = some (.int .i64 a0_0) ∧ w'.cell? ⟨gb332, 1, none⟩ = some (.int .i64 a0_1) ∧ w'.cell? ⟨gb332, 2, none⟩ = some (.int .i64 a0_2) ∧ w'.cell? ⟨gb332, 3, none⟩ = some (.int .i64 a0_3) ∧ w'.cell? ⟨gb332, 4, none⟩ = some (.int .i64 a0_4)) (ds := []) spec_l4Shift.tab1 spec_l4Shift.bits1 #[false, false, false, false, false, false, false, false] ⟨cb BK332 0, cb BK332 1, cb BK332 2, cb BK332 3, cb BK332 4⟩ fun hHeld HT_ HW_ => ?_
 generalize w11.drew = w12 at BK332 BK333 HB hHeld ⊢
 refine pA 0 4 HT_ ?_
 refine pA 2 6 HT_ ?_
 refine tA 1 5 HT_ HW_ hHeld ?_
 refine tA 3 7 HT_ HW_ hHeld ?_
 refine oA 4 (some 8) HT_ fun K hK => ?_
 refine rA Try.func116 (spec_l2Cosine.calls a0_4 t334 _ A2.out) ?_
 intro w13 hb
 replace BK332 := uK BK332 hb
 replace BK333 := uK BK333 hb
 replace HB := uB HB hb
 (try clear hb)
 refine hK.out _ _ ⟨cb BK332 0, cb BK332 1, cb BK332 2, cb BK332 3, cb BK332 4⟩ (fun hHeld => ?_)
 clear hK K
 refine nA ?_ (some 8)
 refine pA 5 9 HT_ ?_
 refine oA 6 (some 10) HT_ fun K hK => ?_
 refine rA Try.func115 (spec_l2Div.calls (wrap64 (a0_2 * t334)) 1000 t335 _ A3.out) ?_
 rintro _ ⟨nd, rfl⟩
 refine hK.out _ _ ⟨cb BK332 0, cb BK332 1, cb BK332 2, cb BK332 3, cb BK332 4⟩ (fun hHeld => ?_)
 clear hK K
 refine nA ?_ (some 10)
 refine pA 7 3 HT_ ?_
 refine done_ (done_of HT_.out (by kernel_rfl)) ?_
 try go_wp2
 (try (rw [drewN_self w13]; generalize hq_ : World.drewN w13 _ = w13; have n0_ : Aside0 (w13.heap[gb332]? = some (.cells #[.int .i64 a0_0, .int .i64 a0_1, .int .i64 a0_2, .int .i64 a0_3, .int .i64 a0_4] 70 (0, 0))) := ⟨by rw [← hq_]; exact (upK BK332.out)⟩; have n1_ : Aside0 (w13.heap[gb333]? = some (.cells #[.int .i64 0, .int .i64 0, .int .i64 0] 103 (0, 0))) := ⟨by rw [← hq_]; exact (upK BK333.out)⟩; have n2_ : Aside0 (Below w.heap.size w w13) := ⟨by rw [← hq_]; exact (bW HB)⟩; clear BK332 BK333 HB hq_; have BK332 := n0_; have BK333 := n1_; have HB := n2_; clear n0_ n1_ n2_))
 replace BK332 := dK BK332
 replace BK333 := dK BK333
 replace HB := Aside0.mk (below_drew1 HB.out)
 refine sA (n := 21) (S := fun w' => w'.cell? ⟨gb332, 0, none⟩ = some (.int .i64 a0_0) ∧ w'.cell? ⟨gb332, 1, none⟩ = some (.int .i64 a0_1) ∧ w'.cell? ⟨gb332, 2, none⟩ = some (.int .i64 a0_2) ∧ w'.cell? ⟨gb332, 3, none⟩ = some (.int .i64 a0_3) ∧ w'.cell? ⟨gb332, 4, none⟩ = some (.int .i64 a0_4)) (ds := []) spec_l4Shift.tab2 spec_l4Shift.bits2 #[false, false, false, false, false, false, false, false, false, false, false, false, false, false, false, false, false, false, false, false, false] ⟨cb BK332 0, cb BK332 1, cb BK332 2, cb BK332 3, cb BK332 4⟩ fun hHeld HT_ HW_ => ?_
 generalize w13.drew = w14 at BK332 BK333 HB hHeld ⊢
 refine pA 0 11 HT_ ?_
 refine pA 1 12 HT_ ?_
 refine pA 6 17 HT_ ?_
 refine pA 7 18 HT_ ?_
 refine pA 12 23 HT_ ?_
 refine pA 14 25 HT_ ?_
 refine tA 2 13 HT_ HW_ hHeld ?_
 refine tA 8 19 HT_ HW_ hHeld ?_
 refine tA 13 24 HT_ HW_ hHeld ?_
 refine tA 15 26 HT_ HW_ hHeld ?_
 refine oA 3 (some 14) HT_ fun K hK => ?_
 refine rA Try.func117 (spec_l2Sine.calls a0_3 t336 _ A4.out) ?_
 intro w15 hb
 replace BK332 := uK BK332 hb
 replace BK333 := uK BK333 hb
 replace HB := uB HB hb
 (try clear hb)
 refine hK.out _ _ ⟨cb BK332 0, cb BK332 1, cb BK332 2, cb BK332 3, cb BK332 4⟩ (fun hHeld => ?_)
 clear hK K
 refine nA ?_ (some 14)
 refine pA 4 15 HT_ ?_
 refine oA 5 (some 16) HT_ fun K hK => ?_
 refine rA Try.func115 (spec_l2Div.calls (wrap64 (t335 * t336)) 1000 t337 _ A5.out) ?_
 rintro _ ⟨nd, rfl⟩
 refine hK.out _ _ ⟨cb BK332 0, cb BK332 1, cb BK332 2, cb BK332 3, cb BK332 4⟩ (fun hHeld => ?_)
 clear hK K
 refine nA ?_ (some 16)
 refine oA 9 (some 20) HT_ fun K hK => ?_
 refine rA Try.func116 (spec_l2Cosine.calls a0_3 t338 _ A6.out) ?_
 intro w16 hb
 replace BK332 := uK BK332 hb
 replace BK333 := uK BK333 hb
 replace HB := uB HB hb
 (try clear hb)
 refine hK.out _ _ ⟨cb BK332 0, cb BK332 1, cb BK332 2, cb BK332 3, cb BK332 4⟩ (fun hHeld => ?_)
 clear hK K
 refine nA ?_ (some 20)
 refine pA 10 21 HT_ ?_
 refine oA 11 (some 22) HT_ fun K hK => ?_
 refine rA Try.func115 (spec_l2Div.calls (wrap64 (t335 * t338)) 1000 t339 _ A7.out) ?_
 rintro _ ⟨nd, rfl⟩
 refine hK.out _ _ ⟨cb BK332 0, cb BK332 1, cb BK332 2, cb BK332 3, cb BK332 4⟩ (fun hHeld => ?_)
 clear hK K
 refine nA ?_ (some 22)
 refine oA 16 (some 27) HT_ fun K hK => ?_
 refine rA Try.func117 (spec_l2Sine.calls a0_4 t340 _ A8.out) ?_
 intro w17 hb
 replace BK332 := uK BK332 hb
 replace BK333 := uK BK333 hb
 replace HB := uB HB hb
 (try clear hb)
 refine hK.out _ _ ⟨cb BK332 0, cb BK332 1, cb BK332 2, cb BK332 3, cb BK332 4⟩ (fun hHeld => ?_)
 clear hK K
 refine nA ?_ (some 27)
 refine pA 17 28 HT_ ?_
 refine oA 18 (some 29) HT_ fun K hK => ?_
 refine rA Try.func115 (spec_l2Div.calls (wrap64 (a0_2 * t340)) 1000 t341 _ A9.out) ?_
 rintro _ ⟨nd, rfl⟩
 refine hK.out _ _ ⟨cb BK332 0, cb BK332 1, cb BK332 2, cb BK332 3, cb BK332 4⟩ (fun hHeld => ?_)
 clear hK K
 refine nA ?_ (some 29)
 refine pA 19 30 HT_ ?_
 refine oA 20 none HT_ fun K hK => ?_
 have hs18 := ci BK333.out 0 0 rfl
 have hfs18 := blk_frozen BK333.out 0
 have hns18_0 := NB332_333.out
 have hms18_0 := NB333_332.out
 have hs19 := ci BK333.out 1 0 rfl
 have hfs19 := blk_frozen BK333.out 1
 have hs20 := ci BK333.out 2 0 rfl
 have hfs20 := blk_frozen BK333.out 2
 refine skip_ (w1 := ?_) (by rfl) rfl ?_ ?_
 rotate_left
 ·go_simp
  rfl
 refine hK.out _ _ (aF hHeld) (fun hHeld => ?_)
 clear hK K
 refine done_ (done_of HT_.out (by kernel_rfl)) ?_
 try go_wp2
 refine bodyPost_ret (results_cell_row rfl _ _ gb333 103 #[.int .i64 t337, .int .i64 t339, .int .i64 t341] (0, 0) _ rfl (by exact pW BK333) Try.underlying103 rfl (by kernel_rfl)) rfl ?_
 exact ⟨eB, (bW HB)⟩

/-! ### spec_l2Long: function 118 -/
def spec_l2Long.f (a0 : Int) : Option (Bool) := (spec_l1In.f a0 (-100000) 100000).bind fun t342 => (some t342)
set_option maxHeartbeats 8000000 in
set_option maxRecDepth 100000 in
theorem spec_l2Long.calls (a0 : Int) (r : Bool) (w : World) (h : spec_l2Long.f a0 = some r) :
  Calls Try.prog 118 #[.int .i64 a0] w fun e w' => e = .returned (.bool r) ∧ Drawn0 w w' := by
 have H := h
 clear h
 unfold spec_l2Long.f at H
 replace H := bA H
 obtain ⟨t342, A2, H⟩ := H
 obtain rfl := Option.some.inj H
 go_enter Try.func118, Try.ntmps118
 go_wp2_with (first | ((with_reducible refine gC 105 ?_); refine lA (some 4) Try.func105 (spec_l1In.calls a0 (-100000) 100000 t342 _ A2.out) ?_; rintro _ ⟨nd, rfl⟩))
 go_ret
 exact ⟨rB, by repeat (first | exact Drawn0.refl _ | apply Drawn0.step)⟩

/-! ### spec_LengthOf: function 104 -/
mutual
def spec_LengthOf.j0 : Nat → Int → Int → Int → Bool → Option (Int × Bool)
 | 0, _, _, _, _ => none
 | k + 1, x0, x1, x2, x24 => if x24 = true then (some (0, false)) else (spec_LengthOf.l0 k (wrap64 ((wrap64 ((wrap64 (x0 * x0)) + (wrap64 (x1 * x1)))) + (wrap64 (x2 * x2)))) 0 200000)
def spec_LengthOf.l0 : Nat → Int → Int → Int → Option (Int × Bool)
 | 0, _, _, _ => none
 | k + 1, x8, x9, x10 => if x9 < x10 then (if (wrap64 ((wrap64 (Int.tdiv (wrap64 ((wrap64 (x9 + x10)) + 1)) 2)) * (wrap64 (Int.tdiv (wrap64 ((wrap64 (x9 + x10)) + 1)) 2)))) ≤ x8 then (spec_LengthOf.l0 k x8 (wrap64 (Int.tdiv (wrap64 ((wrap64 (x9 + x10)) + 1)) 2)) x10) else (spec_LengthOf.l0 k x8 x9 (wrap64 ((wrap64 (Int.tdiv (wrap64 ((wrap64 (x9 + x10)) + 1)) 2)) - 1)))) else (some (x9, true))
end
def spec_LengthOf.f (k : Nat) (a0 a1 a2 : Int) : Option (Int × Bool) := (spec_l2Long.f a0).bind fun t343 => (if t343 = true then ((spec_l2Long.f a1).bind fun t344 => (if t344 = true then ((spec_l2Long.f a2).bind fun t345 => (spec_LengthOf.j0 k a0 a1 a2 (!t345))) else (spec_LengthOf.j0 k a0 a1 a2 true))) else (spec_LengthOf.j0 k a0 a1 a2 true))
theorem spec_LengthOf.mono_l : ∀ k, (∀ y0 y1 y2 y3, LeO (spec_LengthOf.j0 k y0 y1 y2 y3) (spec_LengthOf.j0 (k + 1) y0 y1 y2 y3)) ∧ (∀ y0 y1 y2, LeO (spec_LengthOf.l0 k y0 y1 y2) (spec_LengthOf.l0 (k + 1) y0 y1 y2))
 | 0 => ⟨fun _ _ _ _ r h => by simp [spec_LengthOf.j0] at h, fun _ _ _ r h => by simp [spec_LengthOf.l0] at h⟩
 | k + 1 => by
  obtain ⟨ih0, ih1⟩ := spec_LengthOf.mono_l k
  refine ⟨?_, ?_⟩
  ·intro y0 y1 y2 y3
   unfold spec_LengthOf.j0
   repeat' with_reducible first | apply ih0 | apply ih1 | exact LeO.refl _ | exact LeO.none _ | refine LeO.ite ?_ ?_ | refine LeO.bind ?_ (fun _ => ?_)
  ·intro y0 y1 y2
   unfold spec_LengthOf.l0
   repeat' with_reducible first | apply ih0 | apply ih1 | exact LeO.refl _ | exact LeO.none _ | refine LeO.ite ?_ ?_ | refine LeO.bind ?_ (fun _ => ?_)
theorem spec_LengthOf.mono : ∀ a0 a1 a2 k, LeO (spec_LengthOf.f k a0 a1 a2) (spec_LengthOf.f (k + 1) a0 a1 a2) := by
 intro a0 a1 a2 k
 obtain ⟨ih0, ih1⟩ := spec_LengthOf.mono_l k
 unfold spec_LengthOf.f
 repeat' with_reducible first | apply ih0 | apply ih1 | exact LeO.refl _ | exact LeO.none _ | refine LeO.ite ?_ ?_ | refine LeO.bind ?_ (fun _ => ?_)
set_option maxHeartbeats 8000000 in
set_option maxRecDepth 100000 in
theorem spec_LengthOf.calls (k : Nat) (a0 a1 a2 r1 : Int) (r2 : Bool) (w : World) (h : spec_LengthOf.f k a0 a1 a2 = some (r1, r2)) :
  Calls Try.prog 104 #[.int .i64 a0, .int .i64 a1, .int .i64 a2] w fun e w' => e = .returned (.tuple #[.int .i64 r1, .bool r2]) ∧ Drawn0 w w' := by
 have H := h
 clear h
 unfold spec_LengthOf.f at H
 have HC4 := Aside0.mk H
 clear H
 go_enter Try.func104, Try.ntmps104
 go_upto_region 1 with (fail)
 go_cut [24] (fun v24 wc => ∃ (kq : Nat) (x24_3 : Bool), v24 = .bool x24_3 ∧ Aside0 (spec_LengthOf.j0 kq a0 a1 a2 x24_3 = some (r1, r2)) ∧ Aside0 (kq ≤ k) ∧ Drawn0 w wc)
 case first =>
  have H := HC4.out
  clear HC4
  replace H := bA H
  obtain ⟨t343, A5, H⟩ := H
  rcases Bool.eq_false_or_eq_true t343 with rfl | rfl
  ·replace H := iT rfl H
   replace H := bA H
   obtain ⟨t344, A7, H⟩ := H
   rcases Bool.eq_false_or_eq_true t344 with rfl | rfl
   ·replace H := iT rfl H
    replace H := bA H
    obtain ⟨t345, A9, H⟩ := H
    have H' := Aside0.mk H
    clear H
    go_wp2_with (first | ((with_reducible refine gC 118 ?_); refine lA (some 13) Try.func118 (spec_l2Long.calls a0 true _ A5.out) ?_; rintro _ ⟨nd, rfl⟩) | (go_at_call 118; (with_reducible refine (spec_l2Long.calls a1 true _ A7.out).mono ?_); rintro e w' ⟨rfl, ⟨nd, rfl⟩⟩) | (go_at_call 118; (with_reducible refine (spec_l2Long.calls a2 t345 _ A9.out).mono ?_); rintro e w' ⟨rfl, ⟨nd, rfl⟩⟩))
    go_meet
    case rel => exact ⟨_, (!t345), rB, H', leB, by repeat (first | exact Drawn0.refl _ | apply Drawn0.step)⟩
   ·replace H := iF (by decide) H
    have H' := Aside0.mk H
    clear H
    go_wp2_with (first | ((with_reducible refine gC 118 ?_); refine lA (some 13) Try.func118 (spec_l2Long.calls a0 true _ A5.out) ?_; rintro _ ⟨nd, rfl⟩) | (go_at_call 118; (with_reducible refine (spec_l2Long.calls a1 false _ A7.out).mono ?_); rintro e w' ⟨rfl, ⟨nd, rfl⟩⟩))
    go_meet
    case rel => exact ⟨_, (true), rB, H', leB, by repeat (first | exact Drawn0.refl _ | apply Drawn0.step)⟩
  ·replace H := iF (by decide) H
   have H' := Aside0.mk H
   clear H
   go_wp2_with (first | ((with_reducible refine gC 118 ?_); refine lA (some 13) Try.func118 (spec_l2Long.calls a0 false _ A5.out) ?_; rintro _ ⟨nd, rfl⟩))
   go_meet
   case rel => exact ⟨_, (true), rB, H', leB, by repeat (first | exact Drawn0.refl _ | apply Drawn0.step)⟩
 case rest =>
  clear HC4
  obtain ⟨kq, x24_3, rfl, HA, HJ3, ⟨mc3, rfl⟩⟩ := hcut
  cases kq with
  | zero => exact absurd HA.out (by simp [spec_LengthOf.j0])
  | succ kj3 =>
   have H := HA.out
   clear HA
   simp only [spec_LengthOf.j0] at H
   rcases Bool.eq_false_or_eq_true x24_3 with rfl | rfl
   ·replace H := iT rfl H
    simp only [Option.some.injEq, Prod.mk.injEq] at H
    obtain ⟨rfl, rfl⟩ := H
    go_wp2
    go_ret2
    exact ⟨rB, by repeat (first | exact Drawn0.refl _ | apply Drawn0.step)⟩
   ·replace H := iF (by decide) H
    have H' := Aside0.mk H
    clear H
    go_wp2
    go_loopg [9, 10] kj3 (fun kq v9 v10 w' => ∃ (x9_2 x10_2 : Int), v9 = .int .i64 x9_2 ∧ v10 = .int .i64 x10_2 ∧ Aside0 (spec_LengthOf.l0 kq (wrap64 ((wrap64 ((wrap64 (a0 * a0)) + (wrap64 (a1 * a1)))) + (wrap64 (a2 * a2)))) x9_2 x10_2 = some (r1, r2)) ∧ Aside0 (kq ≤ kj3) ∧ Drawn0 w w')
    case atStart => exact ⟨(0), (200000), rB, rB, H', ⟨Nat.le_refl _⟩, by repeat (first | exact Drawn0.refl _ | apply Drawn0.step)⟩
    case round =>
     clear H'
     obtain ⟨x9_2, x10_2, rfl, rfl, HA, HK2, ⟨m2, rfl⟩⟩ := hrel
     cases gk with
     | zero => exact absurd HA.out (by simp [spec_LengthOf.l0])
     | succ k2 =>
      have H := HA.out
      clear HA
      simp only [spec_LengthOf.l0] at H
      replace H := ifD H
      rcases H with ⟨H, -, c11b0⟩ | ⟨H, -, c11b0⟩
      ·replace H := ifD H
       rcases H with ⟨H, -, c12b0⟩ | ⟨H, -, c12b0⟩
       ·have H' := Aside0.mk H
        clear H
        go_wp2
        go_roundg k2
        case measure => have := HJ3.out; have := HK2.out; omega
        case rel => exact ⟨(wrap64 (Int.tdiv (wrap64 ((wrap64 (x9_2 + x10_2)) + 1)) 2)), (x10_2), rB, rB, H', ⟨by have := HJ3.out; have := HK2.out; omega⟩, by repeat (first | exact Drawn0.refl _ | apply Drawn0.step)⟩
       ·have H' := Aside0.mk H
        clear H
        go_wp2
        go_roundg k2
        case measure => have := HJ3.out; have := HK2.out; omega
        case rel => exact ⟨(x9_2), (wrap64 ((wrap64 (Int.tdiv (wrap64 ((wrap64 (x9_2 + x10_2)) + 1)) 2)) - 1)), rB, rB, H', ⟨by have := HJ3.out; have := HK2.out; omega⟩, by repeat (first | exact Drawn0.refl _ | apply Drawn0.step)⟩
      ·simp only [Option.some.injEq, Prod.mk.injEq] at H
       obtain ⟨rfl, rfl⟩ := H
       go_wp2
       go_ret2
       exact ⟨rB, by repeat (first | exact Drawn0.refl _ | apply Drawn0.step)⟩

/-! ### spec_BearingTo: function 106 -/
mutual
def spec_BearingTo.j0 : Nat → Int → Int → Bool → Option (Int × Bool)
 | 0, _, _, _ => none
 | k + 1, x0, x1, x23 => if x23 = true then (some (0, false)) else (spec_BearingTo.l0 k x0 x1 0 1)
def spec_BearingTo.l0 : Nat → Int → Int → Int → Int → Option (Int × Bool)
 | 0, _, _, _, _ => none
 | k + 1, x0, x1, x6, x7 => if x7 < 360 then ((spec_l2Sine.f x7).bind fun t348 => ((spec_l2Cosine.f x7).bind fun t349 => ((spec_l2Sine.f x6).bind fun t350 => ((spec_l2Cosine.f x6).bind fun t351 => (if (wrap64 ((wrap64 (x0 * t348)) + (wrap64 (x1 * t349)))) > (wrap64 ((wrap64 (x0 * t350)) + (wrap64 (x1 * t351)))) then (spec_BearingTo.l0 k x0 x1 x7 (wrap64 (x7 + 1))) else (spec_BearingTo.l0 k x0 x1 x6 (wrap64 (x7 + 1)))))))) else (some (x6, true))
end
def spec_BearingTo.f (k : Nat) (a0 a1 : Int) : Option (Int × Bool) := (spec_l2Long.f a0).bind fun t346 => (if t346 = true then ((spec_l2Long.f a1).bind fun t347 => (if t347 = true then (if a0 = 0 then (spec_BearingTo.j0 k a0 a1 (a1 == 0)) else (spec_BearingTo.j0 k a0 a1 false)) else (spec_BearingTo.j0 k a0 a1 true))) else (spec_BearingTo.j0 k a0 a1 true))
theorem spec_BearingTo.mono_l : ∀ k, (∀ y0 y1 y2, LeO (spec_BearingTo.j0 k y0 y1 y2) (spec_BearingTo.j0 (k + 1) y0 y1 y2)) ∧ (∀ y0 y1 y2 y3, LeO (spec_BearingTo.l0 k y0 y1 y2 y3) (spec_BearingTo.l0 (k + 1) y0 y1 y2 y3))
 | 0 => ⟨fun _ _ _ r h => by simp [spec_BearingTo.j0] at h, fun _ _ _ _ r h => by simp [spec_BearingTo.l0] at h⟩
 | k + 1 => by
  obtain ⟨ih0, ih1⟩ := spec_BearingTo.mono_l k
  refine ⟨?_, ?_⟩
  ·intro y0 y1 y2
   unfold spec_BearingTo.j0
   repeat' with_reducible first | apply ih0 | apply ih1 | exact LeO.refl _ | exact LeO.none _ | refine LeO.ite ?_ ?_ | refine LeO.bind ?_ (fun _ => ?_)
  ·intro y0 y1 y2 y3
   unfold spec_BearingTo.l0
   repeat' with_reducible first | apply ih0 | apply ih1 | exact LeO.refl _ | exact LeO.none _ | refine LeO.ite ?_ ?_ | refine LeO.bind ?_ (fun _ => ?_)
theorem spec_BearingTo.mono : ∀ a0 a1 k, LeO (spec_BearingTo.f k a0 a1) (spec_BearingTo.f (k + 1) a0 a1) := by
 intro a0 a1 k
 obtain ⟨ih0, ih1⟩ := spec_BearingTo.mono_l k
 unfold spec_BearingTo.f
 repeat' with_reducible first | apply ih0 | apply ih1 | exact LeO.refl _ | exact LeO.none _ | refine LeO.ite ?_ ?_ | refine LeO.bind ?_ (fun _ => ?_)
set_option maxHeartbeats 8000000 in
set_option maxRecDepth 100000 in
theorem spec_BearingTo.calls (k : Nat) (a0 a1 r1 : Int) (r2 : Bool) (w : World) (h : spec_BearingTo.f k a0 a1 = some (r1, r2)) :
  Calls Try.prog 106 #[.int .i64 a0, .int .i64 a1] w fun e w' => e = .returned (.tuple #[.int .i64 r1, .bool r2]) ∧ Below w.heap.size w w' := by
 have HB := Aside0.mk (Below.refl w.heap.size w)
 have H := h
 clear h
 unfold spec_BearingTo.f at H
 have HC3 := Aside0.mk H
 clear H
 go_enter Try.func106, Try.ntmps106
 go_upto_region 1 with (fail)
 go_cut [23] (fun v23 wc => ∃ (kq : Nat) (x23_2 : Bool), v23 = .bool x23_2 ∧ Aside0 (spec_BearingTo.j0 kq a0 a1 x23_2 = some (r1, r2)) ∧ Aside0 (kq ≤ k) ∧ Aside0 (Below w.heap.size w wc))
 case first =>
  have H := HC3.out
  clear HC3
  replace H := bA H
  obtain ⟨t346, A4, H⟩ := H
  rcases Bool.eq_false_or_eq_true t346 with rfl | rfl
  ·replace H := iT rfl H
   replace H := bA H
   obtain ⟨t347, A6, H⟩ := H
   rcases Bool.eq_false_or_eq_true t347 with rfl | rfl
   ·replace H := iT rfl H
    replace H := ifI H
    rcases H with ⟨H, -, c8b0, c8b1⟩ | ⟨H, c8, c8b0, c8b1⟩
    ·(first | rw [c8b0] | (simp only [i64_w, i32_w]; rw [c8b0]) | skip)
     have H' := Aside0.mk H
     clear H
     go_wp2_with (first | ((with_reducible refine gC 118 ?_); refine lA (some 9) Try.func118 (spec_l2Long.calls a0 true _ A4.out) ?_; rintro _ ⟨nd, rfl⟩) | (go_at_call 118; (with_reducible refine (spec_l2Long.calls a1 true _ A6.out).mono ?_); rintro e w' ⟨rfl, ⟨nd, rfl⟩⟩))
     go_meet
     case rel => exact ⟨_, ((a1 == 0)), rB, H', leB, (aB HB)⟩
    ·(first | rw [c8b0] | (simp only [i64_w, i32_w]; rw [c8b0]) | skip)
     have H' := Aside0.mk H
     clear H
     go_wp2_with (first | ((with_reducible refine gC 118 ?_); refine lA (some 9) Try.func118 (spec_l2Long.calls a0 true _ A4.out) ?_; rintro _ ⟨nd, rfl⟩) | (go_at_call 118; (with_reducible refine (spec_l2Long.calls a1 true _ A6.out).mono ?_); rintro e w' ⟨rfl, ⟨nd, rfl⟩⟩))
     go_meet
     case rel => exact ⟨_, (false), rB, H', leB, (aB HB)⟩
   ·replace H := iF (by decide) H
    have H' := Aside0.mk H
    clear H
    go_wp2_with (first | ((with_reducible refine gC 118 ?_); refine lA (some 9) Try.func118 (spec_l2Long.calls a0 true _ A4.out) ?_; rintro _ ⟨nd, rfl⟩) | (go_at_call 118; (with_reducible refine (spec_l2Long.calls a1 false _ A6.out).mono ?_); rintro e w' ⟨rfl, ⟨nd, rfl⟩⟩))
    go_meet
    case rel => exact ⟨_, (true), rB, H', leB, (aB HB)⟩
  ·replace H := iF (by decide) H
   have H' := Aside0.mk H
   clear H
   go_wp2_with (first | ((with_reducible refine gC 118 ?_); refine lA (some 9) Try.func118 (spec_l2Long.calls a0 false _ A4.out) ?_; rintro _ ⟨nd, rfl⟩))
   go_meet
   case rel => exact ⟨_, (true), rB, H', leB, (aB HB)⟩
 case rest =>
  clear HC3
  obtain ⟨kq, x23_2, rfl, HA, HJ2, HB⟩ := hcut
  cases kq with
  | zero => exact absurd HA.out (by simp [spec_BearingTo.j0])
  | succ kj2 =>
   have H := HA.out
   clear HA
   simp only [spec_BearingTo.j0] at H
   rcases Bool.eq_false_or_eq_true x23_2 with rfl | rfl
   ·replace H := iT rfl H
    simp only [Option.some.injEq, Prod.mk.injEq] at H
    obtain ⟨rfl, rfl⟩ := H
    go_wp2
    go_ret2
    exact ⟨eB, (bW HB)⟩
   ·replace H := iF (by decide) H
    have H' := Aside0.mk H
    clear H
    go_wp2
    go_loopg [6, 7] kj2 (fun kq v6 v7 w' => ∃ (x6_2 x7_2 : Int), v6 = .int .i64 x6_2 ∧ v7 = .int .i64 x7_2 ∧ Aside0 (spec_BearingTo.l0 kq a0 a1 x6_2 x7_2 = some (r1, r2)) ∧ Aside0 (kq ≤ kj2) ∧ Aside0 (Below w.heap.size w w'))
    case atStart => exact ⟨(0), (1), rB, rB, H', ⟨Nat.le_refl _⟩, (aB HB)⟩
    case round =>
     clear H'
     obtain ⟨x6_2, x7_2, rfl, rfl, HA, HK2, HB⟩ := hrel
     cases gk with
     | zero => exact absurd HA.out (by simp [spec_BearingTo.l0])
     | succ k2 =>
      have H := HA.out
      clear HA
      simp only [spec_BearingTo.l0] at H
      replace H := ifD H
      rcases H with ⟨H, -, c10b0⟩ | ⟨H, -, c10b0⟩
      ·replace H := bA H
       obtain ⟨t348, A11, H⟩ := H
       replace H := bA H
       obtain ⟨t349, A12, H⟩ := H
       replace H := bA H
       obtain ⟨t350, A13, H⟩ := H
       replace H := bA H
       obtain ⟨t351, A14, H⟩ := H
       replace H := ifD H
       rcases H with ⟨H, -, c15b0⟩ | ⟨H, -, c15b0⟩
       ·have H' := Aside0.mk H
        clear H
        go_wp2_with (first | ((with_reducible refine gC 117 ?_); refine lA (some 30) Try.func117 (spec_l2Sine.calls x7_2 t348 _ A11.out) ?_; intro w16 hb; replace HB := uB HB hb; (try clear hb)) | ((with_reducible refine gC 116 ?_); refine lA (some 34) Try.func116 (spec_l2Cosine.calls x7_2 t349 _ A12.out) ?_; intro w17 hb; replace HB := uB HB hb; (try clear hb)) | ((with_reducible refine gC 117 ?_); refine lA (some 39) Try.func117 (spec_l2Sine.calls x6_2 t350 _ A13.out) ?_; intro w18 hb; replace HB := uB HB hb; (try clear hb)) | ((with_reducible refine gC 116 ?_); refine lA (some 43) Try.func116 (spec_l2Cosine.calls x6_2 t351 _ A14.out) ?_; intro w19 hb; replace HB := uB HB hb; (try clear hb)))
        go_roundg k2
        case measure => have := HJ2.out; have := HK2.out; omega
        case rel => exact ⟨(x7_2), (wrap64 (x7_2 + 1)), rB, rB, H', ⟨by have := HJ2.out; have := HK2.out; omega⟩, (aB HB)⟩
       ·have H' := Aside0.mk H
        clear H
        go_wp2_with (first | ((with_reducible refine gC 117 ?_); refine lA (some 30) Try.func117 (spec_l2Sine.calls x7_2 t348 _ A11.out) ?_; intro w20 hb; replace HB := uB HB hb; (try clear hb)) | ((with_reducible refine gC 116 ?_); refine lA (some 34) Try.func116 (spec_l2Cosine.calls x7_2 t349 _ A12.out) ?_; intro w21 hb; replace HB := uB HB hb; (try clear hb)) | ((with_reducible refine gC 117 ?_); refine lA (some 39) Try.func117 (spec_l2Sine.calls x6_2 t350 _ A13.out) ?_; intro w22 hb; replace HB := uB HB hb; (try clear hb)) | ((with_reducible refine gC 116 ?_); refine lA (some 43) Try.func116 (spec_l2Cosine.calls x6_2 t351 _ A14.out) ?_; intro w23 hb; replace HB := uB HB hb; (try clear hb)))
        go_roundg k2
        case measure => have := HJ2.out; have := HK2.out; omega
        case rel => exact ⟨(x6_2), (wrap64 (x7_2 + 1)), rB, rB, H', ⟨by have := HJ2.out; have := HK2.out; omega⟩, (aB HB)⟩
      ·simp only [Option.some.injEq, Prod.mk.injEq] at H
       obtain ⟨rfl, rfl⟩ := H
       go_wp2
       go_ret2
       exact ⟨eB, (bW HB)⟩

end Go.Proofs.Ytfaojmabalplfaa.QFnRenamings
