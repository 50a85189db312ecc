/- Contracts of Go functions that FnClubs reaches: the call computes what the plain function says. No condition. -/
import Derived.Test.YtfaojmabalplfaaQFnClubsx0
import Derived.Test.YtfaojmabalplfaaQFnClubsx3
import Derived.Test.YtfaojmabalplfaaQFnClubsx10
namespace Go.Proofs.Ytfaojmabalplfaa.QFnClubs
open Go.RowKit Go.Proofs.YtfaojmabalplfaaW.PrintWords Go.Proofs.YtfaojmabalplfaaW.PrintLast Go.Proofs.YtfaojmabalplfaaW.PrintMore
attribute [local go_sem] max2_int min2_int max_two min_two max_three min_three max_four min_four   -- for this text's walks alone
set_option linter.unusedVariables false
set_option linter.unusedSimpArgs false

/-! ### spec_l4Shift: function 103 -/
def spec_l4Shift.f (a0_0 a0_1 a0_2 a0_3 a0_4 : Int) : Option (Int × Int × Int) := (spec_l2Cosine.f a0_4).bind fun t303 => ((spec_l2Div.f (wrap64 (a0_2 * t303)) 1000).bind fun t304 => ((spec_l2Sine.f a0_3).bind fun t305 => ((spec_l2Div.f (wrap64 (t304 * t305)) 1000).bind fun t306 => ((spec_l2Cosine.f a0_3).bind fun t307 => ((spec_l2Div.f (wrap64 (t304 * t307)) 1000).bind fun t308 => ((spec_l2Sine.f a0_4).bind fun t309 => ((spec_l2Div.f (wrap64 (a0_2 * t309)) 1000).bind fun t310 => (some (t306, t308, t310)))))))))
def spec_l4Shift.T1 : Bool × List (List Nat × List Nat) := (true, [([], []), ([0], [0]), ([], []), ([2], [2]), ([3], [3]), ([1, 4], [1, 4]), ([5, 4], [5]), ([6, 6, 0, 1, 2, 3, 4, 5, 6], [6])])
def spec_l4Shift.B1 : List Nat := [0, 1, 0, 4, 12, 31, 63, 127]
theorem spec_l4Shift.tab1 : rtab .any (opsOf Try.f103 1) = spec_l4Shift.T1 := by kernel_rfl
theorem spec_l4Shift.bits1 : waitsOk spec_l4Shift.T1.2 spec_l4Shift.B1 = true := by kernel_rfl
def spec_l4Shift.T2 : Bool × List (List Nat × List Nat) := (true, [([], []), ([], []), ([1], [1]), ([2], [2]), ([0, 3], [0, 3]), ([4, 3], [4]), ([], []), ([], []), ([7], [7]), ([8, 5], [8]), ([6, 9], [6, 9]), ([10, 9], [10]), ([], []), ([12], [12]), ([], []), ([14], [14]), ([15, 11], [15]), ([13, 16], [13, 16]), ([17, 16], [17]), ([5, 11, 18], [5, 11, 18]), ([19, 18, 0, 1, 2, 3, 4, 5, 6, 7, 8, 9, 10, 11, 12, 13, 14, 15, 16, 17, 18, 19], [19])])
def spec_l4Shift.B2 : List Nat := [0, 0, 2, 6, 15, 31, 0, 0, 128, 447, 1023, 2047, 0, 4096, 0, 16384, 53247, 131071, 262143, 524287, 1048575]
theorem spec_l4Shift.tab2 : rtab .any (opsOf Try.f103 2) = spec_l4Shift.T2 := by kernel_rfl
theorem spec_l4Shift.bits2 : waitsOk spec_l4Shift.T2.2 spec_l4Shift.B2 = true := by kernel_rfl
set_option maxHeartbeats 8000000 in
set_option maxRecDepth 100000 in
theorem spec_l4Shift.calls (a0_0 a0_1 a0_2 a0_3 a0_4 r1 r2 r3 : Int) (w : World) (h : spec_l4Shift.f a0_0 a0_1 a0_2 a0_3 a0_4 = some (r1, r2, r3)) :
  Calls Try.prog 103 #[.agg #[.int .i64 a0_0, .int .i64 a0_1, .int .i64 a0_2, .int .i64 a0_3, .int .i64 a0_4]] w fun e w' => e = .returned (.agg #[.int .i64 r1, .int .i64 r2, .int .i64 r3]) ∧ Below w.heap.size w w' := by
 have hu70 := Try.underlying70
 have hu103 := Try.underlying103
 have HB := Aside0.mk (Below.refl w.heap.size w)
 have H := h
 clear h
 unfold spec_l4Shift.f at H
 replace H := bA H
 obtain ⟨t303, A2, H⟩ := H
 replace H := bA H
 obtain ⟨t304, A3, H⟩ := H
 replace H := bA H
 obtain ⟨t305, A4, H⟩ := H
 replace H := bA H
 obtain ⟨t306, A5, H⟩ := H
 replace H := bA H
 obtain ⟨t307, A6, H⟩ := H
 replace H := bA H
 obtain ⟨t308, A7, H⟩ := H
 replace H := bA H
 obtain ⟨t309, A8, H⟩ := H
 replace H := bA H
 obtain ⟨t310, A9, H⟩ := H
 simp only [Option.some.injEq, Prod.mk.injEq] at H
 obtain ⟨rfl, rfl, rfl⟩ := H
 go_enter Try.func103, Try.ntmps103
 try go_wp2_with (first | ((with_reducible refine gD 1 ?_); refine bxE 1 70 #[.int .i64 a0_0, .int .i64 a0_1, .int .i64 a0_2, .int .i64 a0_3, .int .i64 a0_4] fun gb301 w10 hg hbox hb => ?_; have BK301 := Aside0.mk hbox; have GE301 := gB HB hg; replace HB := uB HB hb; clear hb hbox hg) | ((with_reducible refine gD 2 ?_); refine bxE 2 103 #[.int .i64 0, .int .i64 0, .int .i64 0] fun gb302 w11 hg hbox hb => ?_; have BK302 := Aside0.mk hbox; have GE302 := gB HB hg; have ⟨NB301_302, NB302_301⟩ := nB BK301 hg; replace BK301 := uK BK301 hb; replace HB := uB HB hb; clear hb hbox hg))
 replace BK301 := dK BK301
 replace BK302 := dK BK302
 replace HB := Aside0.mk (below_drew1 HB.out)
 refine sA (n := 8) (S := fun w' => w'.cell? ⟨gb301, 0, none⟩ = some (.int .i64 a0_0) ∧ w'.cell? ⟨gb301, 1, none⟩ = some (.int .i64 a0_1) ∧ w'.cell? ⟨gb301, 2, none⟩ = some (.int .i64 a0_2) ∧ w'.cell? ⟨gb301, 3, none⟩ = some (.int .i64 a0_3) ∧ w'.cell? ⟨gb301, 4, none⟩ = some (.int .i64 a0_4)) (ds := []) spec_l4Shift.tab1 spec_l4Shift.bits1 #[false, false, false, false, false, false, false, false] ⟨cb BK301 0, cb BK301 1, cb BK301 2, cb BK301 3, cb BK301 4⟩ fun hHeld HT_ HW_ => ?_
 generalize w11.drew = w12 at BK301 BK302 HB hHeld ⊢
 refine pA 0 4 HT_ ?_
 refine pA 2 6 HT_ ?_
 refine tA 1 5 HT_ HW_ hHeld ?_
 refine tA 3 7 HT_ HW_ hHeld ?_
 refine oA 4 (some 8) HT_ fun K hK => ?_
 refine rA Try.func116 (spec_l2Cosine.calls a0_4 t303 _ A2.out) ?_
 intro w13 hb
 replace BK301 := uK BK301 hb
 replace BK302 := uK BK302 hb
 replace HB := uB HB hb
 (try clear hb)
 refine hK.out _ _ ⟨cb BK301 0, cb BK301 1, cb BK301 2, cb BK301 3, cb BK301 4⟩ (fun hHeld => ?_)
 clear hK K
 refine nA ?_ (some 8)
 refine pA 5 9 HT_ ?_
 refine oA 6 (some 10) HT_ fun K hK => ?_
 refine rA Try.func115 (spec_l2Div.calls (wrap64 (a0_2 * t303)) 1000 t304 _ A3.out) ?_
 rintro _ ⟨nd, rfl⟩
 refine hK.out _ _ ⟨cb BK301 0, cb BK301 1, cb BK301 2, cb BK301 3, cb BK301 4⟩ (fun hHeld => ?_)
 clear hK K
 refine nA ?_ (some 10)
 refine pA 7 3 HT_ ?_
 refine done_ (done_of HT_.out (by kernel_rfl)) ?_
 try go_wp2
 (try (rw [drewN_self w13]; generalize hq_ : World.drewN w13 _ = w13; have n0_ : Aside0 (w13.heap[gb301]? = some (.cells #[.int .i64 a0_0, .int .i64 a0_1, .int .i64 a0_2, .int .i64 a0_3, .int .i64 a0_4] 70 (0, 0))) := ⟨by rw [← hq_]; exact (upK BK301.out)⟩; have n1_ : Aside0 (w13.heap[gb302]? = some (.cells #[.int .i64 0, .int .i64 0, .int .i64 0] 103 (0, 0))) := ⟨by rw [← hq_]; exact (upK BK302.out)⟩; have n2_ : Aside0 (Below w.heap.size w w13) := ⟨by rw [← hq_]; exact (bW HB)⟩; clear BK301 BK302 HB hq_; have BK301 := n0_; have BK302 := n1_; have HB := n2_; clear n0_ n1_ n2_))
 replace BK301 := dK BK301
 replace BK302 := dK BK302
 replace HB := Aside0.mk (below_drew1 HB.out)
 refine sA (n := 21) (S := fun w' => w'.cell? ⟨gb301, 0, none⟩ = some (.int .i64 a0_0) ∧ w'.cell? ⟨gb301, 1, none⟩ = some (.int .i64 a0_1) ∧ w'.cell? ⟨gb301, 2, none⟩ = some (.int .i64 a0_2) ∧ w'.cell? ⟨gb301, 3, none⟩ = some (.int .i64 a0_3) ∧ w'.cell? ⟨gb301, 4, none⟩ = some (.int .i64 a0_4)) (ds := []) spec_l4Shift.tab2 spec_l4Shift.bits2 #[false, false, false, false, false, false, false, false, false, false, false, false, false, false, false, false, false, false, false, false, false] ⟨cb BK301 0, cb BK301 1, cb BK301 2, cb BK301 3, cb BK301 4⟩ fun hHeld HT_ HW_ => ?_
 generalize w13.drew = w14 at BK301 BK302 HB hHeld ⊢
 refine pA 0 11 HT_ ?_
 refine pA 1 12 HT_ ?_
 refine pA 6 17 HT_ ?_
 refine pA 7 18 HT_ ?_
 refine pA 12 23 HT_ ?_
 refine pA 14 25 HT_ ?_
 refine tA 2 13 HT_ HW_ hHeld ?_
 refine tA 8 19 HT_ HW_ hHeld ?_
 refine tA 13 24 HT_ HW_ hHeld ?_
 refine tA 15 26 HT_ HW_ hHeld ?_
 refine oA 3 (some 14) HT_ fun K hK => ?_
 refine rA Try.func117 (spec_l2Sine.calls a0_3 t305 _ A4.out) ?_
 intro w15 hb
 replace BK301 := uK BK301 hb
 replace BK302 := uK BK302 hb
 replace HB := uB HB hb
 (try clear hb)
 refine hK.out _ _ ⟨cb BK301 0, cb BK301 1, cb BK301 2, cb BK301 3, cb BK301 4⟩ (fun hHeld => ?_)
 clear hK K
 refine nA ?_ (some 14)
 refine pA 4 15 HT_ ?_
 refine oA 5 (some 16) HT_ fun K hK => ?_
 refine rA Try.func115 (spec_l2Div.calls (wrap64 (t304 * t305)) 1000 t306 _ A5.out) ?_
 rintro _ ⟨nd, rfl⟩
 refine hK.out _ _ ⟨cb BK301 0, cb BK301 1, cb BK301 2, cb BK301 3, cb BK301 4⟩ (fun hHeld => ?_)
 clear hK K
 refine nA ?_ (some 16)
 refine oA 9 (some 20) HT_ fun K hK => ?_
 refine rA Try.func116 (spec_l2Cosine.calls a0_3 t307 _ A6.out) ?_
 intro w16 hb
 replace BK301 := uK BK301 hb
 replace BK302 := uK BK302 hb
 replace HB := uB HB hb
 (try clear hb)
 refine hK.out _ _ ⟨cb BK301 0, cb BK301 1, cb BK301 2, cb BK301 3, cb BK301 4⟩ (fun hHeld => ?_)
 clear hK K
 refine nA ?_ (some 20)
 refine pA 10 21 HT_ ?_
 refine oA 11 (some 22) HT_ fun K hK => ?_
 refine rA Try.func115 (spec_l2Div.calls (wrap64 (t304 * t307)) 1000 t308 _ A7.out) ?_
 rintro _ ⟨nd, rfl⟩
 refine hK.out _ _ ⟨cb BK301 0, cb BK301 1, cb BK301 2, cb BK301 3, cb BK301 4⟩ (fun hHeld => ?_)
 clear hK K
 refine nA ?_ (some 22)
 refine oA 16 (some 27) HT_ fun K hK => ?_
 refine rA Try.func117 (spec_l2Sine.calls a0_4 t309 _ A8.out) ?_
 intro w17 hb
 replace BK301 := uK BK301 hb
 replace BK302 := uK BK302 hb
 replace HB := uB HB hb
 (try clear hb)
 refine hK.out _ _ ⟨cb BK301 0, cb BK301 1, cb BK301 2, cb BK301 3, cb BK301 4⟩ (fun hHeld => ?_)
 clear hK K
 refine nA ?_ (some 27)
 refine pA 17 28 HT_ ?_
 refine oA 18 (some 29) HT_ fun K hK => ?_
 refine rA Try.func115 (spec_l2Div.calls (wrap64 (a0_2 * t309)) 1000 t310 _ A9.out) ?_
 rintro _ ⟨nd, rfl⟩
 refine hK.out _ _ ⟨cb BK301 0, cb BK301 1, cb BK301 2, cb BK301 3, cb BK301 4⟩ (fun hHeld => ?_)
 clear hK K
 refine nA ?_ (some 29)
 refine pA 19 30 HT_ ?_
 refine oA 20 none HT_ fun K hK => ?_
 have hs18 := ci BK302.out 0 0 rfl
 have hfs18 := blk_frozen BK302.out 0
 have hns18_0 := NB301_302.out
 have hms18_0 := NB302_301.out
 have hs19 := ci BK302.out 1 0 rfl
 have hfs19 := blk_frozen BK302.out 1
 have hs20 := ci BK302.out 2 0 rfl
 have hfs20 := blk_frozen BK302.out 2
 refine skip_ (w1 := ?_) (by rfl) rfl ?_ ?_
 rotate_left
 ·go_simp
  rfl
 refine hK.out _ _ (aF hHeld) (fun hHeld => ?_)
 clear hK K
 refine done_ (done_of HT_.out (by kernel_rfl)) ?_
 try go_wp2
 refine bodyPost_ret (results_cell_row rfl _ _ gb302 103 #[.int .i64 t306, .int .i64 t308, .int .i64 t310] (0, 0) _ rfl (by exact pW BK302) Try.underlying103 rfl (by kernel_rfl)) rfl ?_
 exact ⟨eB, (bW HB)⟩

/-! ### spec_l2Long: function 118 -/
def spec_l2Long.f (a0 : Int) : Option (Bool) := (spec_l1In.f a0 (-100000) 100000).bind fun t311 => (some t311)
set_option maxHeartbeats 8000000 in
set_option maxRecDepth 100000 in
theorem spec_l2Long.calls (a0 : Int) (r : Bool) (w : World) (h : spec_l2Long.f a0 = some r) :
  Calls Try.prog 118 #[.int .i64 a0] w fun e w' => e = .returned (.bool r) ∧ Drawn0 w w' := by
 have H := h
 clear h
 unfold spec_l2Long.f at H
 replace H := bA H
 obtain ⟨t311, A2, H⟩ := H
 obtain rfl := Option.some.inj H
 go_enter Try.func118, Try.ntmps118
 go_wp2_with (first | ((with_reducible refine gC 105 ?_); refine lA (some 4) Try.func105 (spec_l1In.calls a0 (-100000) 100000 t311 _ A2.out) ?_; rintro _ ⟨nd, rfl⟩))
 go_ret
 exact ⟨rB, by repeat (first | exact Drawn0.refl _ | apply Drawn0.step)⟩

/-! ### spec_LengthOf: function 104 -/
mutual
def spec_LengthOf.j0 : Nat → Int → Int → Int → Bool → Option (Int × Bool)
 | 0, _, _, _, _ => none
 | k + 1, x0, x1, x2, x24 => if x24 = true then (some (0, false)) else (spec_LengthOf.l0 k (wrap64 ((wrap64 ((wrap64 (x0 * x0)) + (wrap64 (x1 * x1)))) + (wrap64 (x2 * x2)))) 0 200000)
def spec_LengthOf.l0 : Nat → Int → Int → Int → Option (Int × Bool)
 | 0, _, _, _ => none
 | k + 1, x8, x9, x10 => if x9 < x10 then (if (wrap64 ((wrap64 (Int.tdiv (wrap64 ((wrap64 (x9 + x10)) + 1)) 2)) * (wrap64 (Int.tdiv (wrap64 ((wrap64 (x9 + x10)) + 1)) 2)))) ≤ x8 then (spec_LengthOf.l0 k x8 (wrap64 (Int.tdiv (wrap64 ((wrap64 (x9 + x10)) + 1)) 2)) x10) else (spec_LengthOf.l0 k x8 x9 (wrap64 ((wrap64 (Int.tdiv (wrap64 ((wrap64 (x9 + x10)) + 1)) 2)) - 1)))) else (some (x9, true))
end
def spec_LengthOf.f (k : Nat) (a0 a1 a2 : Int) : Option (Int × Bool) := (spec_l2Long.f a0).bind fun t312 => (if t312 = true then ((spec_l2Long.f a1).bind fun t313 => (if t313 = true then ((spec_l2Long.f a2).bind fun t314 => (spec_LengthOf.j0 k a0 a1 a2 (!t314))) else (spec_LengthOf.j0 k a0 a1 a2 true))) else (spec_LengthOf.j0 k a0 a1 a2 true))
theorem spec_LengthOf.mono_l : ∀ k, (∀ y0 y1 y2 y3, LeO (spec_LengthOf.j0 k y0 y1 y2 y3) (spec_LengthOf.j0 (k + 1) y0 y1 y2 y3)) ∧ (∀ y0 y1 y2, LeO (spec_LengthOf.l0 k y0 y1 y2) (spec_LengthOf.l0 (k + 1) y0 y1 y2))
 | 0 => ⟨fun _ _ _ _ r h => by simp [spec_LengthOf.j0] at h, fun _ _ _ r h => by simp [spec_LengthOf.l0] at h⟩
 | k + 1 => by
  obtain ⟨ih0, ih1⟩ := spec_LengthOf.mono_l k
  refine ⟨?_, ?_⟩
  ·intro y0 y1 y2 y3
   unfold spec_LengthOf.j0
   repeat' with_reducible first | apply ih0 | apply ih1 | exact LeO.refl _ | exact LeO.none _ | refine LeO.ite ?_ ?_ | refine LeO.bind ?_ (fun _ => ?_)
  ·intro y0 y1 y2
   unfold spec_LengthOf.l0
   repeat' with_reducible first | apply ih0 | apply ih1 | exact LeO.refl _ | exact LeO.none _ | refine LeO.ite ?_ ?_ | refine LeO.bind ?_ (fun _ => ?_)
theorem spec_LengthOf.mono : ∀ a0 a1 a2 k, LeO (spec_LengthOf.f k a0 a1 a2) (spec_LengthOf.f (k + 1) a0 a1 a2) := by
 intro a0 a1 a2 k
 obtain ⟨ih0, ih1⟩ := spec_LengthOf.mono_l k
 unfold spec_LengthOf.f
 repeat' with_reducible first | apply ih0 | apply ih1 | exact LeO.refl _ | exact LeO.none _ | refine LeO.ite ?_ ?_ | refine LeO.bind ?_ (fun _ => ?_)
set_option maxHeartbeats 8000000 in
set_option maxRecDepth 100000 in
theorem spec_LengthOf.calls (k : Nat) (a0 a1 a2 r1 : Int) (r2 : Bool) (w : World) (h : spec_LengthOf.f k a0 a1 a2 = some (r1, r2)) :
  Calls Try.prog 104 #[.int .i64 a0, .int .i64 a1, .int .i64 a2] w fun e w' => e = .returned (.tuple #[.int .i64 r1, .bool r2]) ∧ Drawn0 w w' := by
 have H := h
 clear h
 unfold spec_LengthOf.f at H
 have HC4 := Aside0.mk H
 clear H
 go_enter Try.func104, Try.ntmps104
 go_upto_region 1 with (fail)
 go_cut [24] (fun v24 wc => ∃ (kq : Nat) (x24_3 : Bool), v24 = .bool x24_3 ∧ Aside0 (spec_LengthOf.j0 kq a0 a1 a2 x24_3 = some (r1, r2)) ∧ Aside0 (kq ≤ k) ∧ Drawn0 w wc)
 case first =>
  have H := HC4.out
  clear HC4
  replace H := bA H
  obtain ⟨t312, A5, H⟩ := H
  rcases Bool.eq_false_or_eq_true t312 with rfl | rfl
  ·replace H := iT rfl H
   replace H := bA H
   obtain ⟨t313, A7, H⟩ := H
   rcases Bool.eq_false_or_eq_true t313 with rfl | rfl
   ·replace H := iT rfl H
    replace H := bA H
    obtain ⟨t314, A9, H⟩ := H
    have H' := Aside0.mk H
    clear H
    go_wp2_with (first | ((with_reducible refine gC 118 ?_); refine lA (some 13) Try.func118 (spec_l2Long.calls a0 true _ A5.out) ?_; rintro _ ⟨nd, rfl⟩) | (go_at_call 118; (with_reducible refine (spec_l2Long.calls a1 true _ A7.out).mono ?_); rintro e w' ⟨rfl, ⟨nd, rfl⟩⟩) | (go_at_call 118; (with_reducible refine (spec_l2Long.calls a2 t314 _ A9.out).mono ?_); rintro e w' ⟨rfl, ⟨nd, rfl⟩⟩))
    go_meet
    case rel => exact ⟨_, (!t314), rB, H', leB, by repeat (first | exact Drawn0.refl _ | apply Drawn0.step)⟩
   ·replace H := iF (by decide) H
    have H' := Aside0.mk H
    clear H
    go_wp2_with (first | ((with_reducible refine gC 118 ?_); refine lA (some 13) Try.func118 (spec_l2Long.calls a0 true _ A5.out) ?_; rintro _ ⟨nd, rfl⟩) | (go_at_call 118; (with_reducible refine (spec_l2Long.calls a1 false _ A7.out).mono ?_); rintro e w' ⟨rfl, ⟨nd, rfl⟩⟩))
    go_meet
    case rel => exact ⟨_, (true), rB, H', leB, by repeat (first | exact Drawn0.refl _ | apply Drawn0.step)⟩
  ·replace H := iF (by decide) H
   have H' := Aside0.mk H
   clear H
   go_wp2_with (first | ((with_reducible refine gC 118 ?_); refine lA (some 13) Try.func118 (spec_l2Long.calls a0 false _ A5.out) ?_; rintro _ ⟨nd, rfl⟩))
   go_meet
   case rel => exact ⟨_, (true), rB, H', leB, by repeat (first | exact Drawn0.refl _ | apply Drawn0.step)⟩
 case rest =>
  clear HC4
  obtain ⟨kq, x24_3, rfl, HA, HJ3, ⟨mc3, rfl⟩⟩ := hcut
  cases kq with
  | zero => exact absurd HA.out (by simp [spec_LengthOf.j0])
  | succ kj3 =>
   have H := HA.out
   clear HA
   simp only [spec_LengthOf.j0] at H
   rcases Bool.eq_false_or_eq_true x24_3 with rfl | rfl
   ·replace H := iT rfl H
    simp only [Option.some.injEq, Prod.mk.injEq] at H
    obtain ⟨rfl, rfl⟩ := H
    go_wp2
    go_ret2
    exact ⟨rB, by repeat (first | exact Drawn0.refl _ | apply Drawn0.step)⟩
   ·replace H := iF (by decide) H
    have H' := Aside0.mk H
    clear H
    go_wp2
    go_loopg [9, 10] kj3 (fun kq v9 v10 w' => ∃ (x9_2 x10_2 : Int), v9 = .int .i64 x9_2 ∧ v10 = .int .i64 x10_2 ∧ Aside0 (spec_LengthOf.l0 kq (wrap64 ((wrap64 ((wrap64 (a0 * a0)) + (wrap64 (a1 * a1)))) + (wrap64 (a2 * a2)))) x9_2 x10_2 = some (r1, r2)) ∧ Aside0 (kq ≤ kj3) ∧ Drawn0 w w')
    case atStart => exact ⟨(0), (200000), rB, rB, H', ⟨Nat.le_refl _⟩, by repeat (first | exact Drawn0.refl _ | apply Drawn0.step)⟩
    case round =>
     clear H'
     obtain ⟨x9_2, x10_2, rfl, rfl, HA, HK2, ⟨m2, rfl⟩⟩ := hrel
     cases gk with
     | zero => exact absurd HA.out (by simp [spec_LengthOf.l0])
     | succ k2 =>
      have H := HA.out
      clear HA
      simp only [spec_LengthOf.l0] at H
      replace H := ifD H
      rcases H with ⟨H, -, c11b0⟩ | ⟨H, -, c11b0⟩
      ·replace H := ifD H
       rcases H with ⟨H, -, c12b0⟩ | ⟨H, -, c12b0⟩
       ·have H' := Aside0.mk H
        clear H
        go_wp2
        go_roundg k2
        case measure => have := HJ3.out; have := HK2.out; omega
        case rel => exact ⟨(wrap64 (Int.tdiv (wrap64 ((wrap64 (x9_2 + x10_2)) + 1)) 2)), (x10_2), rB, rB, H', ⟨by have := HJ3.out; have := HK2.out; omega⟩, by repeat (first | exact Drawn0.refl _ | apply Drawn0.step)⟩
       ·have H' := Aside0.mk H
        clear H
        go_wp2
        go_roundg k2
        case measure => have := HJ3.out; have := HK2.out; omega
        case rel => exact ⟨(x9_2), (wrap64 ((wrap64 (Int.tdiv (wrap64 ((wrap64 (x9_2 + x10_2)) + 1)) 2)) - 1)), rB, rB, H', ⟨by have := HJ3.out; have := HK2.out; omega⟩, by repeat (first | exact Drawn0.refl _ | apply Drawn0.step)⟩
      ·simp only [Option.some.injEq, Prod.mk.injEq] at H
       obtain ⟨rfl, rfl⟩ := H
       go_wp2
       go_ret2
       exact ⟨rB, by repeat (first | exact Drawn0.refl _ | apply Drawn0.step)⟩

/-! ### spec_BearingTo: function 106 -/
mutual
def spec_BearingTo.j0 : Nat → Int → Int → Bool → Option (Int × Bool)
 | 0, _, _, _ => none
 | k + 1, x0, x1, x23 => if x23 = true then (some (0, false)) else (spec_BearingTo.l0 k x0 x1 0 1)
def spec_BearingTo.l0 : Nat → Int → Int → Int → Int → Option (Int × Bool)
 | 0, _, _, _, _ => none
 | k + 1, x0, x1, x6, x7 => if x7 < 360 then ((spec_l2Sine.f x7).bind fun t317 => ((spec_l2Cosine.f x7).bind fun t318 => ((spec_l2Sine.f x6).bind fun t319 => ((spec_l2Cosine.f x6).bind fun t320 => (if (wrap64 ((wrap64 (x0 * t317)) + (wrap64 (x1 * t318)))) > (wrap64 ((wrap64 (x0 * t319)) + (wrap64 (x1 * t320)))) then (spec_BearingTo.l0 k x0 x1 x7 (wrap64 (x7 + 1))) else (spec_BearingTo.l0 k x0 x1 x6 (wrap64 (x7 + 1)))))))) else (some (x6, true))
end
def spec_BearingTo.f (k : Nat) (a0 a1 : Int) : Option (Int × Bool) := (spec_l2Long.f a0).bind fun t315 => (if t315 = true then ((spec_l2Long.f a1).bind fun t316 => (if t316 = true then (if a0 = 0 then (spec_BearingTo.j0 k a0 a1 (a1 == 0)) else (spec_BearingTo.j0 k a0 a1 false)) else (spec_BearingTo.j0 k a0 a1 true))) else (spec_BearingTo.j0 k a0 a1 true))
theorem spec_BearingTo.mono_l : ∀ k, (∀ y0 y1 y2, LeO (spec_BearingTo.j0 k y0 y1 y2) (spec_BearingTo.j0 (k + 1) y0 y1 y2)) ∧ (∀ y0 y1 y2 y3, LeO (spec_BearingTo.l0 k y0 y1 y2 y3) (spec_BearingTo.l0 (k + 1) y0 y1 y2 y3))
 | 0 => ⟨fun _ _ _ r h => by simp [spec_BearingTo.j0] at h, fun _ _ _ _ r h => by simp [spec_BearingTo.l0] at h⟩
 | k + 1 => by
  obtain ⟨ih0, ih1⟩ := spec_BearingTo.mono_l k
  refine ⟨?_, ?_⟩
  ·intro y0 y1 y2
   unfold spec_BearingTo.j0
   repeat' with_reducible first | apply ih0 | apply ih1 | exact LeO.refl _ | exact LeO.none _ | refine LeO.ite ?_ ?_ | refine LeO.bind ?_ (fun _ => ?_)
  ·intro y0 y1 y2 y3
   unfold spec_BearingTo.l0
   repeat' with_reducible first | apply ih0 | apply ih1 | exact LeO.refl _ | exact LeO.none _ | refine LeO.ite ?_ ?_ | refine LeO.bind ?_ (fun _ => ?_)
theorem spec_BearingTo.mono : ∀ a0 a1 k, LeO (spec_BearingTo.f k a0 a1) (spec_BearingTo.f (k + 1) a0 a1) := by
 intro a0 a1 k
 obtain ⟨ih0, ih1⟩ := spec_BearingTo.mono_l k
 unfold spec_BearingTo.f
 repeat' with_reducible first | apply ih0 | apply ih1 | exact LeO.refl _ | exact LeO.none _ | refine LeO.ite ?_ ?_ | refine LeO.bind ?_ (fun _ => ?_)
set_option maxHeartbeats 8000000 in
set_option maxRecDepth 100000 in
theorem spec_BearingTo.calls (k : Nat) (a0 a1 r1 : Int) (r2 : Bool) (w : World) (h : spec_BearingTo.f k a0 a1 = some (r1, r2)) :
  Calls Try.prog 106 #[.int .i64 a0, .int .i64 a1] w fun e w' => e = .returned (.tuple #[.int .i64 r1, .bool r2]) ∧ Below w.heap.size w w' := by
 have HB := Aside0.mk (Below.refl w.heap.size w)
 have H := h
 clear h
 unfold spec_BearingTo.f at H
 have HC3 := Aside0.mk H
 clear H
 go_enter Try.func106, Try.ntmps106
 go_upto_region 1 with (fail)
 go_cut [23] (fun v23 wc => ∃ (kq : Nat) (x23_2 : Bool), v23 = .bool x23_2 ∧ Aside0 (spec_BearingTo.j0 kq a0 a1 x23_2 = some (r1, r2)) ∧ Aside0 (kq ≤ k) ∧ Aside0 (Below w.heap.size w wc))
 case first =>
  have H := HC3.out
  clear HC3
  replace H := bA H
  obtain ⟨t315, A4, H⟩ := H
  rcases Bool.eq_false_or_eq_true t315 with rfl | rfl
  ·replace H := iT rfl H
   replace H := bA H
   obtain ⟨t316, A6, H⟩ := H
   rcases Bool.eq_false_or_eq_true t316 with rfl | rfl
   ·replace H := iT rfl H
    replace H := ifI H
    rcases H with ⟨H, -, c8b0, c8b1⟩ | ⟨H, c8, c8b0, c8b1⟩
    ·(first | rw [c8b0] | (simp only [i64_w, i32_w]; rw [c8b0]) | skip)
     have H' := Aside0.mk H
     clear H
     go_wp2_with (first | ((with_reducible refine gC 118 ?_); refine lA (some 9) Try.func118 (spec_l2Long.calls a0 true _ A4.out) ?_; rintro _ ⟨nd, rfl⟩) | (go_at_call 118; (with_reducible refine (spec_l2Long.calls a1 true _ A6.out).mono ?_); rintro e w' ⟨rfl, ⟨nd, rfl⟩⟩))
     go_meet
     case rel => exact ⟨_, ((a1 == 0)), rB, H', leB, (aB HB)⟩
    ·(first | rw [c8b0] | (simp only [i64_w, i32_w]; rw [c8b0]) | skip)
     have H' := Aside0.mk H
     clear H
     go_wp2_with (first | ((with_reducible refine gC 118 ?_); refine lA (some 9) Try.func118 (spec_l2Long.calls a0 true _ A4.out) ?_; rintro _ ⟨nd, rfl⟩) | (go_at_call 118; (with_reducible refine (spec_l2Long.calls a1 true _ A6.out).mono ?_); rintro e w' ⟨rfl, ⟨nd, rfl⟩⟩))
     go_meet
     case rel => exact ⟨_, (false), rB, H', leB, (aB HB)⟩
   ·replace H := iF (by decide) H
    have H' := Aside0.mk H
    clear H
    go_wp2_with (first | ((with_reducible refine gC 118 ?_); refine lA (some 9) Try.func118 (spec_l2Long.calls a0 true _ A4.out) ?_; rintro _ ⟨nd, rfl⟩) | (go_at_call 118; (with_reducible refine (spec_l2Long.calls a1 false _ A6.out).mono ?_); rintro e w' ⟨rfl, ⟨nd, rfl⟩⟩))
    go_meet
    case rel => exact ⟨_, (true), rB, H', leB, (aB HB)⟩
  ·replace H := iF (by decide) H
   have H' := Aside0.mk H
   clear H
   go_wp2_with (first | ((with_reducible refine gC 118 ?_); refine lA (some 9) Try.func118 (spec_l2Long.calls a0 false _ A4.out) ?_; rintro _ ⟨nd, rfl⟩))
   go_meet
   case rel => exact ⟨_, (true), rB, H', leB, (aB HB)⟩
 case rest =>
  clear HC3
  obtain ⟨kq, x23_2, rfl, HA, HJ2, HB⟩ := hcut
  cases kq with
  | zero => exact absurd HA.out (by simp [spec_BearingTo.j0])
  | succ kj2 =>
   have H := HA.out
   clear HA
   simp only [spec_BearingTo.j0] at H
   rcases Bool.eq_false_or_eq_true x23_2 with rfl | rfl
   ·replace H := iT rfl H
    simp only [Option.some.injEq, Prod.mk.injEq] at H
    obtain ⟨rfl, rfl⟩ := H
    go_wp2
    go_ret2
    exact ⟨eB, (bW HB)⟩
   ·replace H := iF (by decide) H
    have H' := Aside0.mk H
    clear H
    go_wp2
    go_loopg [6, 7] kj2 (fun kq v6 v7 w' => ∃ (x6_2 x7_2 : Int), v6 = .int .i64 x6_2 ∧ v7 = .int .i64 x7_2 ∧ Aside0 (spec_BearingTo.l0 kq a0 a1 x6_2 x7_2 = some (r1, r2)) ∧ Aside0 (kq ≤ kj2) ∧ Aside0 (Below w.heap.size w w'))
    case atStart => exact ⟨(0), (1), rB, rB, H', ⟨Nat.le_refl _⟩, (aB HB)⟩
    case round =>
     clear H'
     obtain ⟨x6_2, x7_2, rfl, rfl, HA, HK2, HB⟩ := hrel
     cases gk with
     | zero => exact absurd HA.out (by simp [spec_BearingTo.l0])
     | succ k2 =>
      have H := HA.out
      clear HA
      simp only [spec_BearingTo.l0] at H
      replace H := ifD H
      rcases H with ⟨H, -, c10b0⟩ | ⟨H, -, c10b0⟩
      ·replace H := bA H
       obtain ⟨t317, A11, H⟩ := H
       replace H := bA H
       obtain ⟨t318, A12, H⟩ := H
       replace H := bA H
       obtain ⟨t319, A13, H⟩ := H
       replace H := bA H
       obtain ⟨t320, A14, H⟩ := H
       replace H := ifD H
       rcases H with ⟨H, -, c15b0⟩ | ⟨H, -, c15b0⟩
       ·have H' := Aside0.mk H
        clear H
        go_wp2_with (first | ((with_reducible refine gC 117 ?_); refine lA (some 30) Try.func117 (spec_l2Sine.calls x7_2 t317 _ A11.out) ?_; intro w16 hb; replace HB := uB HB hb; (try clear hb)) | ((with_reducible refine gC 116 ?_); refine lA (some 34) Try.func116 (spec_l2Cosine.calls x7_2 t318 _ A12.out) ?_; intro w17 hb; replace HB := uB HB hb; (try clear hb)) | ((with_reducible refine gC 117 ?_); refine lA (some 39) Try.func117 (spec_l2Sine.calls x6_2 t319 _ A13.out) ?_; intro w18 hb; replace HB := uB HB hb; (try clear hb)) | ((with_reducible refine gC 116 ?_); refine lA (some 43) Try.func116 (spec_l2Cosine.calls x6_2 t320 _ A14.out) ?_; intro w19 hb; replace HB := uB HB hb; (try clear hb)))
        go_roundg k2
        case measure => have := HJ2.out; have := HK2.out; omega
        case rel => exact ⟨(x7_2), (wrap64 (x7_2 + 1)), rB, rB, H', ⟨by have := HJ2.out; have := HK2.out; omega⟩, (aB HB)⟩
       ·have H' := Aside0.mk H
        clear H
        go_wp2_with (first | ((with_reducible refine gC 117 ?_); refine lA (some 30) Try.func117 (spec_l2Sine.calls x7_2 t317 _ A11.out) ?_; intro w20 hb; replace HB := uB HB hb; (try clear hb)) | ((with_reducible refine gC 116 ?_); refine lA (some 34) Try.func116 (spec_l2Cosine.calls x7_2 t318 _ A12.out) ?_; intro w21 hb; replace HB := uB HB hb; (try clear hb)) | ((with_reducible refine gC 117 ?_); refine lA (some 39) Try.func117 (spec_l2Sine.calls x6_2 t319 _ A13.out) ?_; intro w22 hb; replace HB := uB HB hb; (try clear hb)) | ((with_reducible refine gC 116 ?_); refine lA (some 43) Try.func116 (spec_l2Cosine.calls x6_2 t320 _ A14.out) ?_; intro w23 hb; replace HB := uB HB hb; (try clear hb)))
        go_roundg k2
        case measure => have := HJ2.out; have := HK2.out; omega
        case rel => exact ⟨(x6_2), (wrap64 (x7_2 + 1)), rB, rB, H', ⟨by have := HJ2.out; have := HK2.out; omega⟩, (aB HB)⟩
      ·simp only [Option.some.injEq, Prod.mk.injEq] at H
       obtain ⟨rfl, rfl⟩ := H
       go_wp2
       go_ret2
       exact ⟨eB, (bW HB)⟩

end Go.Proofs.Ytfaojmabalplfaa.QFnClubs
