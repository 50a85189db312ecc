/- Contracts of Go functions that FnSteps reaches: the call computes what the plain function says. No condition. -/
import Derived.Test.YtmfidodcpbochaaGreatQFnStepsx0
import Derived.Test.YtmfidodcpbochaaGreatQFnStepsx1
namespace Go.Proofs.YtmfidodcpbochaaGreat.QFnSteps
open Go.RowKit Go.Proofs.YtmfidodcpbochaaGreatW.PrintWords Go.Proofs.YtmfidodcpbochaaGreatW.PrintLast Go.Proofs.YtmfidodcpbochaaGreatW.PrintMore
attribute [local go_sem] max2_int min2_int max_two min_two max_three min_three max_four min_four   -- for this text's walks alone
set_option linter.unusedVariables false
set_option linter.unusedSimpArgs false

/-! ### spec_l4Shift: function 84 -/
def spec_l4Shift.f (a0_0 a0_1 a0_2 a0_3 a0_4 : Int) : Option (Int × Int × Int) := (spec_l2Cosine.f a0_4).bind fun t140 => ((spec_l2Div.f (wrap64 (a0_2 * t140)) 1000).bind fun t141 => ((spec_l2Sine.f a0_3).bind fun t142 => ((spec_l2Div.f (wrap64 (t141 * t142)) 1000).bind fun t143 => ((spec_l2Cosine.f a0_3).bind fun t144 => ((spec_l2Div.f (wrap64 (t141 * t144)) 1000).bind fun t145 => ((spec_l2Sine.f a0_4).bind fun t146 => ((spec_l2Div.f (wrap64 (a0_2 * t146)) 1000).bind fun t147 => (some (t143, t145, t147)))))))))
def spec_l4Shift.T1 : Bool × List (List Nat × List Nat) := (true, [([], []), ([0], [0]), ([], []), ([2], [2]), ([3], [3]), ([1, 4], [1, 4]), ([5, 4], [5]), ([6, 6, 0, 1, 2, 3, 4, 5, 6], [6])])
def spec_l4Shift.B1 : List Nat := [0, 1, 0, 4, 12, 31, 63, 127]
theorem spec_l4Shift.tab1 : rtab .any (opsOf Tryz.f84 1) = spec_l4Shift.T1 := by kernel_rfl
theorem spec_l4Shift.bits1 : waitsOk spec_l4Shift.T1.2 spec_l4Shift.B1 = true := by kernel_rfl
def spec_l4Shift.T2 : Bool × List (List Nat × List Nat) := (true, [([], []), ([], []), ([1], [1]), ([2], [2]), ([0, 3], [0, 3]), ([4, 3], [4]), ([], []), ([], []), ([7], [7]), ([8, 5], [8]), ([6, 9], [6, 9]), ([10, 9], [10]), ([], []), ([12], [12]), ([], []), ([14], [14]), ([15, 11], [15]), ([13, 16], [13, 16]), ([17, 16], [17]), ([5, 11, 18], [5, 11, 18]), ([19, 18, 0, 1, 2, 3, 4, 5, 6, 7, 8, 9, 10, 11, 12, 13, 14, 15, 16, 17, 18, 19], [19])])
def spec_l4Shift.B2 : List Nat := [0, 0, 2, 6, 15, 31, 0, 0, 128, 447, 1023, 2047, 0, 4096, 0, 16384, 53247, 131071, 262143, 524287, 1048575]
theorem spec_l4Shift.tab2 : rtab .any (opsOf Tryz.f84 2) = spec_l4Shift.T2 := by kernel_rfl
theorem spec_l4Shift.bits2 : waitsOk spec_l4Shift.T2.2 spec_l4Shift.B2 = true := by kernel_rfl
set_option maxHeartbeats 8000000 in
set_option maxRecDepth 100000 in
theorem spec_l4Shift.calls (a0_0 a0_1 a0_2 a0_3 a0_4 r1 r2 r3 : Int) (w : World) (h : spec_l4Shift.f a0_0 a0_1 a0_2 a0_3 a0_4 = some (r1, r2, r3)) :
 Calls Tryz.prog 84 #[.agg #[.int .i64 a0_0, .int .i64 a0_1, .int .i64 a0_2, .int .i64 a0_3, .int .i64 a0_4]] w fun e w' => e = .returned (.agg #[.int .i64 r1, .int .i64 r2, .int .i64 r3]) ∧ Below w.heap.size w w' := by
 have hu32 := Tryz.underlying32
 have hu92 := Tryz.underlying92
 have HB := Aside0.mk (Below.refl w.heap.size w)
 have H := h
 clear h
 unfold spec_l4Shift.f at H
 replace H := bA H
 obtain ⟨t140, A2, H⟩ := H
 replace H := bA H
 obtain ⟨t141, A3, H⟩ := H
 replace H := bA H
 obtain ⟨t142, A4, H⟩ := H
 replace H := bA H
 obtain ⟨t143, A5, H⟩ := H
 replace H := bA H
 obtain ⟨t144, A6, H⟩ := H
 replace H := bA H
 obtain ⟨t145, A7, H⟩ := H
 replace H := bA H
 obtain ⟨t146, A8, H⟩ := H
 replace H := bA H
 obtain ⟨t147, A9, H⟩ := H
 simp only [Option.some.injEq, Prod.mk.injEq] at H
 obtain ⟨rfl, rfl, rfl⟩ := H
 go_enter Tryz.func84, Tryz.ntmps84
 try go_wp2_with (first | ((with_reducible refine gD 1 ?_); refine bxE 1 32 #[.int .i64 a0_0, .int .i64 a0_1, .int .i64 a0_2, .int .i64 a0_3, .int .i64 a0_4] fun gb138 w10 hg hbox hb => ?_; have BK138 := Aside0.mk hbox; have GE138 := gB HB hg; replace HB := uB HB hb; clear hb hbox hg) | ((with_reducible refine gD 2 ?_); refine bxE 2 92 #[.int .i64 0, .int .i64 0, .int .i64 0] fun gb139 w11 hg hbox hb => ?_; have BK139 := Aside0.mk hbox; have GE139 := gB HB hg; have ⟨NB138_139, NB139_138⟩ := nB BK138 hg; replace BK138 := uK BK138 hb; replace HB := uB HB hb; clear hb hbox hg))
 replace BK138 := dK BK138
 replace BK139 := dK BK139
 replace HB := Aside0.mk (below_drew1 HB.out)
 refine sA (n := 8) (S := fun w' => w'.cell? ⟨gb138, 0, none⟩ = some (.int .i64 a0_0) ∧ w'.cell? ⟨gb138, 1, none⟩ = some (.int .i64 a0_1) ∧ w'.cell? ⟨gb138, 2, none⟩ = some (.int .i64 a0_2) ∧ w'.cell? ⟨gb138, 3, none⟩ = some (.int .i64 a0_3) ∧ w'.cell? ⟨gb138, 4, none⟩ = some (.int .i64 a0_4)) (ds := []) spec_l4Shift.tab1 spec_l4Shift.bits1 #[false, false, false, false, false, false, false, false] ⟨cb BK138 0, cb BK138 1, cb BK138 2, cb BK138 3, cb BK138 4⟩ fun hHeld HT_ HW_ => ?_
 generalize w11.drew = w12 at BK138 BK139 HB hHeld ⊢
 refine pA 0 4 HT_ ?_
 refine pA 2 6 HT_ ?_
 refine tA 1 5 HT_ HW_ hHeld ?_
 refine tA 3 7 HT_ HW_ hHeld ?_
 refine oA 4 (some 8) HT_ fun K hK => ?_
 refine rA Tryz.func101 (spec_l2Cosine.calls a0_4 t140 _ A2.out) ?_
 intro w13 hb
 replace BK138 := uK BK138 hb
 replace BK139 := uK BK139 hb
 replace HB := uB HB hb
 (try clear hb)
 refine hK.out _ _ ⟨cb BK138 0, cb BK138 1, cb BK138 2, cb BK138 3, cb BK138 4⟩ (fun hHeld => ?_)
 clear hK K
 refine nA ?_ (some 8)
 refine pA 5 9 HT_ ?_
 refine oA 6 (some 10) HT_ fun K hK => ?_
 refine rA Tryz.func100 (spec_l2Div.calls (wrap64 (a0_2 * t140)) 1000 t141 _ A3.out) ?_
 rintro _ ⟨nd, rfl⟩
 refine hK.out _ _ ⟨cb BK138 0, cb BK138 1, cb BK138 2, cb BK138 3, cb BK138 4⟩ (fun hHeld => ?_)
 clear hK K
 refine nA ?_ (some 10)
 refine pA 7 3 HT_ ?_
 refine done_ (done_of HT_.out (by kernel_rfl)) ?_
 try go_wp2
 (try (rw [drewN_self w13]; generalize hq_ : World.drewN w13 _ = w13; have n0_ : Aside0 (w13.heap[gb138]? = some (.cells #[.int .i64 a0_0, .int .i64 a0_1, .int .i64 a0_2, .int .i64 a0_3, .int .i64 a0_4] 32 (0, 0))) := ⟨by rw [← hq_]; exact (upK BK138.out)⟩; have n1_ : Aside0 (w13.heap[gb139]? = some (.cells #[.int .i64 0, .int .i64 0, .int .i64 0] 92 (0, 0))) := ⟨by rw [← hq_]; exact (upK BK139.out)⟩; have n2_ : Aside0 (Below w.heap.size w w13) := ⟨by rw [← hq_]; exact (bW HB)⟩; clear BK138 BK139 HB hq_; have BK138 := n0_; have BK139 := n1_; have HB := n2_; clear n0_ n1_ n2_))
 replace BK138 := dK BK138
 replace BK139 := dK BK139
 replace HB := Aside0.mk (below_drew1 HB.out)
 refine sA (n := 21) (S := fun w' => w'.cell? ⟨gb138, 0, none⟩ = some (.int .i64 a0_0) ∧ w'.cell? ⟨gb138, 1, none⟩ = some (.int .i64 a0_1) ∧ w'.cell? ⟨gb138, 2, none⟩ = some (.int .i64 a0_2) ∧ w'.cell? ⟨gb138, 3, none⟩ = some (.int .i64 a0_3) ∧ w'.cell? ⟨gb138, 4, none⟩ = some (.int .i64 a0_4)) (ds := []) spec_l4Shift.tab2 spec_l4Shift.bits2 #[false, false, false, false, false, false, false, false, false, false, false, false, false, false, false, false, false, false, false, false, false] ⟨cb BK138 0, cb BK138 1, cb BK138 2, cb BK138 3, cb BK138 4⟩ fun hHeld HT_ HW_ => ?_
 generalize w13.drew = w14 at BK138 BK139 HB hHeld ⊢
 refine pA 0 11 HT_ ?_
 refine pA 1 12 HT_ ?_
 refine pA 6 17 HT_ ?_
 refine pA 7 18 HT_ ?_
 refine pA 12 23 HT_ ?_
 refine pA 14 25 HT_ ?_
 refine tA 2 13 HT_ HW_ hHeld ?_
 refine tA 8 19 HT_ HW_ hHeld ?_
 refine tA 13 24 HT_ HW_ hHeld ?_
 refine tA 15 26 HT_ HW_ hHeld ?_
 refine oA 3 (some 14) HT_ fun K hK => ?_
 refine rA Tryz.func102 (spec_l2Sine.calls a0_3 t142 _ A4.out) ?_
 intro w15 hb
 replace BK138 := uK BK138 hb
 replace BK139 := uK BK139 hb
 replace HB := uB HB hb
 (try clear hb)
 refine hK.out _ _ ⟨cb BK138 0, cb BK138 1, cb BK138 2, cb BK138 3, cb BK138 4⟩ (fun hHeld => ?_)
 clear hK K
 refine nA ?_ (some 14)
 refine pA 4 15 HT_ ?_
 refine oA 5 (some 16) HT_ fun K hK => ?_
 refine rA Tryz.func100 (spec_l2Div.calls (wrap64 (t141 * t142)) 1000 t143 _ A5.out) ?_
 rintro _ ⟨nd, rfl⟩
 refine hK.out _ _ ⟨cb BK138 0, cb BK138 1, cb BK138 2, cb BK138 3, cb BK138 4⟩ (fun hHeld => ?_)
 clear hK K
 refine nA ?_ (some 16)
 refine oA 9 (some 20) HT_ fun K hK => ?_
 refine rA Tryz.func101 (spec_l2Cosine.calls a0_3 t144 _ A6.out) ?_
 intro w16 hb
 replace BK138 := uK BK138 hb
 replace BK139 := uK BK139 hb
 replace HB := uB HB hb
 (try clear hb)
 refine hK.out _ _ ⟨cb BK138 0, cb BK138 1, cb BK138 2, cb BK138 3, cb BK138 4⟩ (fun hHeld => ?_)
 clear hK K
 refine nA ?_ (some 20)
 refine pA 10 21 HT_ ?_
 refine oA 11 (some 22) HT_ fun K hK => ?_
 refine rA Tryz.func100 (spec_l2Div.calls (wrap64 (t141 * t144)) 1000 t145 _ A7.out) ?_
 rintro _ ⟨nd, rfl⟩
 refine hK.out _ _ ⟨cb BK138 0, cb BK138 1, cb BK138 2, cb BK138 3, cb BK138 4⟩ (fun hHeld => ?_)
 clear hK K
 refine nA ?_ (some 22)
 refine oA 16 (some 27) HT_ fun K hK => ?_
 refine rA Tryz.func102 (spec_l2Sine.calls a0_4 t146 _ A8.out) ?_
 intro w17 hb
 replace BK138 := uK BK138 hb
 replace BK139 := uK BK139 hb
 replace HB := uB HB hb
 (try clear hb)
 refine hK.out _ _ ⟨cb BK138 0, cb BK138 1, cb BK138 2, cb BK138 3, cb BK138 4⟩ (fun hHeld => ?_)
 clear hK K
 refine nA ?_ (some 27)
 refine pA 17 28 HT_ ?_
 refine oA 18 (some 29) HT_ fun K hK => ?_
 refine rA Tryz.func100 (spec_l2Div.calls (wrap64 (a0_2 * t146)) 1000 t147 _ A9.out) ?_
 rintro _ ⟨nd, rfl⟩
 refine hK.out _ _ ⟨cb BK138 0, cb BK138 1, cb BK138 2, cb BK138 3, cb BK138 4⟩ (fun hHeld => ?_)
 clear hK K
 refine nA ?_ (some 29)
 refine pA 19 30 HT_ ?_
 refine oA 20 none HT_ fun K hK => ?_
 have hs18 := ci BK139.out 0 0 rfl
 have hfs18 := blk_frozen BK139.out 0
 have hns18_0 := NB138_139.out
 have hms18_0 := NB139_138.out
 have hs19 := ci BK139.out 1 0 rfl
 have hfs19 := blk_frozen BK139.out 1
 have hs20 := ci BK139.out 2 0 rfl
 have hfs20 := blk_frozen BK139.out 2
 refine skip_ (w1 := ?_) (by rfl) rfl ?_ ?_
 rotate_left
 ·go_simp
  rfl
 refine hK.out _ _ (aF hHeld) (fun hHeld => ?_)
 clear hK K
 refine done_ (done_of HT_.out (by kernel_rfl)) ?_
 try go_wp2
 refine bodyPost_ret (results_cell_row rfl _ _ gb139 92 #[.int .i64 t143, .int .i64 t145, .int .i64 t147] (0, 0) _ rfl (by exact pW BK139) Tryz.underlying92 rfl (by kernel_rfl)) rfl ?_
 exact ⟨eB, (bW HB)⟩

/-! ### spec_l4Reverse: function 85 -/
def spec_l4Reverse.f (a0_0 a0_1 a0_2 a0_3 a0_4 : Int) : Option (Int × Int × Int × Int × Int) := some (a0_1, a0_0, a0_2, Int.tmod (wrap64 (a0_3 + 180)) 360, wrap64 (-a0_4))
set_option maxHeartbeats 8000000 in
set_option maxRecDepth 100000 in
theorem spec_l4Reverse.calls (a0_0 a0_1 a0_2 a0_3 a0_4 r1 r2 r3 r4 r5 : Int) (w : World) (h : spec_l4Reverse.f a0_0 a0_1 a0_2 a0_3 a0_4 = some (r1, r2, r3, r4, r5)) :
 Calls Tryz.prog 85 #[.agg #[.int .i64 a0_0, .int .i64 a0_1, .int .i64 a0_2, .int .i64 a0_3, .int .i64 a0_4]] w fun e w' => e = .returned (.agg #[.int .i64 r1, .int .i64 r2, .int .i64 r3, .int .i64 r4, .int .i64 r5]) ∧ Below w.heap.size w w' := by
 have hu32 := Tryz.underlying32
 have HB := Aside0.mk (Below.refl w.heap.size w)
 have H := h
 clear h
 unfold spec_l4Reverse.f at H
 simp only [Option.some.injEq, Prod.mk.injEq] at H
 obtain ⟨rfl, rfl, rfl, rfl, rfl⟩ := H
 go_enter Tryz.func85, Tryz.ntmps85
 go_wp2_with (first | ((with_reducible refine gD 1 ?_); refine bxE 1 32 #[.int .i64 a0_0, .int .i64 a0_1, .int .i64 a0_2, .int .i64 a0_3, .int .i64 a0_4] fun gb148 w2 hg hbox hb => ?_; have BK148 := Aside0.mk hbox; have GE148 := gB HB hg; replace HB := uB HB hb; clear hb hbox hg) | ((with_reducible refine gD 2 ?_); refine bxE 2 32 #[.int .i64 0, .int .i64 0, .int .i64 0, .int .i64 0, .int .i64 0] fun gb149 w3 hg hbox hb => ?_; have BK149 := Aside0.mk hbox; have GE149 := gB HB hg; have ⟨NB148_149, NB149_148⟩ := nB BK148 hg; replace BK148 := uK BK148 hb; replace HB := uB HB hb; clear hb hbox hg; have hnb4 := NB148_149.out; have hnc4 := NB149_148.out; have ⟨hcz5_0, hcz5_1, hcz5_2, hcz5_3, hcz5_4, hfz5_0⟩ := cz5 BK148; have ⟨hcz6_0, hcz6_1, hcz6_2, hcz6_3, hcz6_4, hfz6_0⟩ := cz5 BK149))
 refine bodyPost_ret (results_cell_row rfl _ _ gb149 32 #[.int .i64 a0_1, .int .i64 a0_0, .int .i64 a0_2, .int .i64 (Int.tmod (wrap64 (a0_3 + 180)) 360), .int .i64 (wrap64 (-a0_4))] (0, 0) _ rfl (by exact pW BK149) Tryz.underlying32 rfl (by kernel_rfl)) rfl ?_
 exact ⟨eB, (bW HB)⟩

/-! ### spec_l2Long: function 103 -/
def spec_l2Long.f (a0 : Int) : Option (Bool) := (spec_l1In.f a0 (-100000) 100000).bind fun t150 => (some t150)
set_option maxHeartbeats 8000000 in
set_option maxRecDepth 100000 in
theorem spec_l2Long.calls (a0 : Int) (r : Bool) (w : World) (h : spec_l2Long.f a0 = some r) :
 Calls Tryz.prog 103 #[.int .i64 a0] w fun e w' => e = .returned (.bool r) ∧ Drawn0 w w' := by
 have H := h
 clear h
 unfold spec_l2Long.f at H
 replace H := bA H
 obtain ⟨t150, A2, H⟩ := H
 obtain rfl := Option.some.inj H
 go_enter Tryz.func103, Tryz.ntmps103
 go_wp2_with (first | ((with_reducible refine gC 64 ?_); refine lA (some 4) Tryz.func64 (spec_l1In.calls a0 (-100000) 100000 t150 _ A2.out) ?_; rintro _ ⟨nd, rfl⟩))
 go_ret
 exact ⟨rB, by repeat (first | exact Drawn0.refl _ | apply Drawn0.step)⟩

/-! ### spec_LengthOf: function 86 -/
mutual
def spec_LengthOf.j0 : Nat → Int → Int → Int → Bool → Option (Int × Bool)
 | 0, _, _, _, _ => none
 | k + 1, x0, x1, x2, x24 => if x24 = true then (some (0, false)) else (spec_LengthOf.l0 k (wrap64 ((wrap64 ((wrap64 (x0 * x0)) + (wrap64 (x1 * x1)))) + (wrap64 (x2 * x2)))) 0 200000)
def spec_LengthOf.l0 : Nat → Int → Int → Int → Option (Int × Bool)
 | 0, _, _, _ => none
 | k + 1, x8, x9, x10 => if x9 < x10 then (if (wrap64 ((wrap64 (Int.tdiv (wrap64 ((wrap64 (x9 + x10)) + 1)) 2)) * (wrap64 (Int.tdiv (wrap64 ((wrap64 (x9 + x10)) + 1)) 2)))) ≤ x8 then (spec_LengthOf.l0 k x8 (wrap64 (Int.tdiv (wrap64 ((wrap64 (x9 + x10)) + 1)) 2)) x10) else (spec_LengthOf.l0 k x8 x9 (wrap64 ((wrap64 (Int.tdiv (wrap64 ((wrap64 (x9 + x10)) + 1)) 2)) - 1)))) else (some (x9, true))
end
def spec_LengthOf.f (k : Nat) (a0 a1 a2 : Int) : Option (Int × Bool) := (spec_l2Long.f a0).bind fun t151 => (if t151 = true then ((spec_l2Long.f a1).bind fun t152 => (if t152 = true then ((spec_l2Long.f a2).bind fun t153 => (spec_LengthOf.j0 k a0 a1 a2 (!t153))) else (spec_LengthOf.j0 k a0 a1 a2 true))) else (spec_LengthOf.j0 k a0 a1 a2 true))
theorem spec_LengthOf.mono_l : ∀ k, (∀ y0 y1 y2 y3, LeO (spec_LengthOf.j0 k y0 y1 y2 y3) (spec_LengthOf.j0 (k + 1) y0 y1 y2 y3)) ∧ (∀ y0 y1 y2, LeO (spec_LengthOf.l0 k y0 y1 y2) (spec_LengthOf.l0 (k + 1) y0 y1 y2))
 | 0 => ⟨fun _ _ _ _ r h => by simp [spec_LengthOf.j0] at h, fun _ _ _ r h => by simp [spec_LengthOf.l0] at h⟩
 | k + 1 => by
  obtain ⟨ih0, ih1⟩ := spec_LengthOf.mono_l k
  refine ⟨?_, ?_⟩
  ·intro y0 y1 y2 y3
   unfold spec_LengthOf.j0
   repeat' with_reducible first | apply ih0 | apply ih1 | exact LeO.refl _ | exact LeO.none _ | refine LeO.ite ?_ ?_ | refine LeO.bind ?_ (fun _ => ?_)
  ·intro y0 y1 y2
   unfold spec_LengthOf.l0
   repeat' with_reducible first | apply ih0 | apply ih1 | exact LeO.refl _ | exact LeO.none _ | refine LeO.ite ?_ ?_ | refine LeO.bind ?_ (fun _ => ?_)
theorem spec_LengthOf.mono : ∀ a0 a1 a2 k, LeO (spec_LengthOf.f k a0 a1 a2) (spec_LengthOf.f (k + 1) a0 a1 a2) := by
 intro a0 a1 a2 k
 obtain ⟨ih0, ih1⟩ := spec_LengthOf.mono_l k
 unfold spec_LengthOf.f
 repeat' with_reducible first | apply ih0 | apply ih1 | exact LeO.refl _ | exact LeO.none _ | refine LeO.ite ?_ ?_ | refine LeO.bind ?_ (fun _ => ?_)
set_option maxHeartbeats 8000000 in
set_option maxRecDepth 100000 in
theorem spec_LengthOf.calls (k : Nat) (a0 a1 a2 r1 : Int) (r2 : Bool) (w : World) (h : spec_LengthOf.f k a0 a1 a2 = some (r1, r2)) :
 Calls Tryz.prog 86 #[.int .i64 a0, .int .i64 a1, .int .i64 a2] w fun e w' => e = .returned (.tuple #[.int .i64 r1, .bool r2]) ∧ Drawn0 w w' := by
 have H := h
 clear h
 unfold spec_LengthOf.f at H
 have HC4 := Aside0.mk H
 clear H
 go_enter Tryz.func86, Tryz.ntmps86
 go_upto_region 1 with (fail)
 go_cut [24] (fun v24 wc => ∃ (kq : Nat) (x24_3 : Bool), v24 = .bool x24_3 ∧ Aside0 (spec_LengthOf.j0 kq a0 a1 a2 x24_3 = some (r1, r2)) ∧ Aside0 (kq ≤ k) ∧ Drawn0 w wc)
 case first =>
  have H := HC4.out
  clear HC4
  replace H := bA H
  obtain ⟨t151, A5, H⟩ := H
  rcases Bool.eq_false_or_eq_true t151 with rfl | rfl
  ·replace H := iT rfl H
   replace H := bA H
   obtain ⟨t152, A7, H⟩ := H
   rcases Bool.eq_false_or_eq_true t152 with rfl | rfl
   ·replace H := iT rfl H
    replace H := bA H
    obtain ⟨t153, A9, H⟩ := H
    have H' := Aside0.mk H
    clear H
    go_wp2_with (first | ((with_reducible refine gC 103 ?_); refine lA (some 13) Tryz.func103 (spec_l2Long.calls a0 true _ A5.out) ?_; rintro _ ⟨nd, rfl⟩) | (go_at_call 103; (with_reducible refine (spec_l2Long.calls a1 true _ A7.out).mono ?_); rintro e w' ⟨rfl, ⟨nd, rfl⟩⟩) | (go_at_call 103; (with_reducible refine (spec_l2Long.calls a2 t153 _ A9.out).mono ?_); rintro e w' ⟨rfl, ⟨nd, rfl⟩⟩))
    go_meet
    case rel => exact ⟨_, (!t153), rB, H', leB, by repeat (first | exact Drawn0.refl _ | apply Drawn0.step)⟩
   ·replace H := iF (by decide) H
    have H' := Aside0.mk H
    clear H
    go_wp2_with (first | ((with_reducible refine gC 103 ?_); refine lA (some 13) Tryz.func103 (spec_l2Long.calls a0 true _ A5.out) ?_; rintro _ ⟨nd, rfl⟩) | (go_at_call 103; (with_reducible refine (spec_l2Long.calls a1 false _ A7.out).mono ?_); rintro e w' ⟨rfl, ⟨nd, rfl⟩⟩))
    go_meet
    case rel => exact ⟨_, (true), rB, H', leB, by repeat (first | exact Drawn0.refl _ | apply Drawn0.step)⟩
  ·replace H := iF (by decide) H
   have H' := Aside0.mk H
   clear H
   go_wp2_with (first | ((with_reducible refine gC 103 ?_); refine lA (some 13) Tryz.func103 (spec_l2Long.calls a0 false _ A5.out) ?_; rintro _ ⟨nd, rfl⟩))
   go_meet
   case rel => exact ⟨_, (true), rB, H', leB, by repeat (first | exact Drawn0.refl _ | apply Drawn0.step)⟩
 case rest =>
  clear HC4
  obtain ⟨kq, x24_3, rfl, HA, HJ3, ⟨mc3, rfl⟩⟩ := hcut
  cases kq with
  | zero => exact absurd HA.out (by simp [spec_LengthOf.j0])
  | succ kj3 =>
   have H := HA.out
   clear HA
   simp only [spec_LengthOf.j0] at H
   rcases Bool.eq_false_or_eq_true x24_3 with rfl | rfl
   ·replace H := iT rfl H
    simp only [Option.some.injEq, Prod.mk.injEq] at H
    obtain ⟨rfl, rfl⟩ := H
    go_wp2
    go_ret2
    exact ⟨rB, by repeat (first | exact Drawn0.refl _ | apply Drawn0.step)⟩
   ·replace H := iF (by decide) H
    have H' := Aside0.mk H
    clear H
    go_wp2
    go_loopg [9, 10] kj3 (fun kq v9 v10 w' => ∃ (x9_2 x10_2 : Int), v9 = .int .i64 x9_2 ∧ v10 = .int .i64 x10_2 ∧ Aside0 (spec_LengthOf.l0 kq (wrap64 ((wrap64 ((wrap64 (a0 * a0)) + (wrap64 (a1 * a1)))) + (wrap64 (a2 * a2)))) x9_2 x10_2 = some (r1, r2)) ∧ Aside0 (kq ≤ kj3) ∧ Drawn0 w w')
    case atStart => exact ⟨(0), (200000), rB, rB, H', ⟨Nat.le_refl _⟩, by repeat (first | exact Drawn0.refl _ | apply Drawn0.step)⟩
    case round =>
     clear H'
     obtain ⟨x9_2, x10_2, rfl, rfl, HA, HK2, ⟨m2, rfl⟩⟩ := hrel
     cases gk with
     | zero => exact absurd HA.out (by simp [spec_LengthOf.l0])
     | succ k2 =>
      have H := HA.out
      clear HA
      simp only [spec_LengthOf.l0] at H
      replace H := ifD H
      rcases H with ⟨H, -, c11b0⟩ | ⟨H, -, c11b0⟩
      ·replace H := ifD H
       rcases H with ⟨H, -, c12b0⟩ | ⟨H, -, c12b0⟩
       ·have H' := Aside0.mk H
        clear H
        go_wp2
        go_roundg k2
        case measure => have := HJ3.out; have := HK2.out; omega
        case rel => exact ⟨(wrap64 (Int.tdiv (wrap64 ((wrap64 (x9_2 + x10_2)) + 1)) 2)), (x10_2), rB, rB, H', ⟨by have := HJ3.out; have := HK2.out; omega⟩, by repeat (first | exact Drawn0.refl _ | apply Drawn0.step)⟩
       ·have H' := Aside0.mk H
        clear H
        go_wp2
        go_roundg k2
        case measure => have := HJ3.out; have := HK2.out; omega
        case rel => exact ⟨(x9_2), (wrap64 ((wrap64 (Int.tdiv (wrap64 ((wrap64 (x9_2 + x10_2)) + 1)) 2)) - 1)), rB, rB, H', ⟨by have := HJ3.out; have := HK2.out; omega⟩, by repeat (first | exact Drawn0.refl _ | apply Drawn0.step)⟩
      ·simp only [Option.some.injEq, Prod.mk.injEq] at H
       obtain ⟨rfl, rfl⟩ := H
       go_wp2
       go_ret2
       exact ⟨rB, by repeat (first | exact Drawn0.refl _ | apply Drawn0.step)⟩

end Go.Proofs.YtmfidodcpbochaaGreat.QFnSteps
