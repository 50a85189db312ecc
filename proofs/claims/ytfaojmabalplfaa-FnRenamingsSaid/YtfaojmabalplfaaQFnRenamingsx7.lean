/- Contracts of Go functions that FnRenamings reaches: the call computes what the plain function says. No condition. -/
import Derived.Test.YtfaojmabalplfaaQFnRenamingsx0
import Derived.Test.YtfaojmabalplfaaQFnRenamingsx2
import Derived.Test.YtfaojmabalplfaaQFnRenamingsx4
import Derived.Test.YtfaojmabalplfaaQFnRenamingsx6
namespace Go.Proofs.Ytfaojmabalplfaa.QFnRenamings
open Go.RowKit Go.Proofs.YtfaojmabalplfaaW.PrintWords Go.Proofs.YtfaojmabalplfaaW.PrintLast Go.Proofs.YtfaojmabalplfaaW.PrintMore
attribute [local go_sem] max2_int min2_int max_two min_two max_three min_three max_four min_four   -- for this text's walks alone
set_option linter.unusedVariables false
set_option linter.unusedSimpArgs false

/-! ### impl_Leg_reverse: function 98 -/
def impl_Leg_reverse.f (a0_0 a0_1 a0_2 a0_3 a0_4 : Int) : Option (Int × Int × Int × Int × Int) := (impl_back.f a0_3).bind fun t223 => (some (a0_1, a0_0, a0_2, t223, wrap64 (-a0_4)))
def impl_Leg_reverse.T1 : Bool × List (List Nat × List Nat) := (true, [([], []), ([0], [0]), ([], []), ([2], [2]), ([], []), ([4], [4]), ([], []), ([6], [6]), ([7], [7]), ([], []), ([9], [9]), ([10], [10]), ([1, 3, 5, 8, 11], [1, 3, 5, 8, 11]), ([12, 8, 0, 1, 2, 3, 4, 5, 6, 7, 8, 9, 10, 11, 12], [12])])
def impl_Leg_reverse.B1 : List Nat := [0, 1, 0, 4, 0, 16, 0, 64, 192, 0, 512, 1536, 4095, 8191]
theorem impl_Leg_reverse.tab1 : rtab .any (opsOf Try.f98 1) = impl_Leg_reverse.T1 := by kernel_rfl
theorem impl_Leg_reverse.bits1 : waitsOk impl_Leg_reverse.T1.2 impl_Leg_reverse.B1 = true := by kernel_rfl
set_option maxHeartbeats 8000000 in
set_option maxRecDepth 100000 in
theorem impl_Leg_reverse.calls (a0_0 a0_1 a0_2 a0_3 a0_4 r1 r2 r3 r4 r5 : Int) (w : World) (h : impl_Leg_reverse.f a0_0 a0_1 a0_2 a0_3 a0_4 = some (r1, r2, r3, r4, r5)) :
  Calls Try.prog 98 #[.agg #[.int .i64 a0_0, .int .i64 a0_1, .int .i64 a0_2, .int .i64 a0_3, .int .i64 a0_4]] w fun e w' => e = .returned (.agg #[.int .i64 r1, .int .i64 r2, .int .i64 r3, .int .i64 r4, .int .i64 r5]) ∧ Below w.heap.size w w' := by
 have hu70 := Try.underlying70
 have HB := Aside0.mk (Below.refl w.heap.size w)
 have H := h
 clear h
 unfold impl_Leg_reverse.f at H
 replace H := bA H
 obtain ⟨t223, A2, H⟩ := H
 simp only [Option.some.injEq, Prod.mk.injEq] at H
 obtain ⟨rfl, rfl, rfl, rfl, rfl⟩ := H
 go_enter Try.func98, Try.ntmps98
 try go_wp2_with (first | ((with_reducible refine gD 1 ?_); refine bxE 1 70 #[.int .i64 a0_0, .int .i64 a0_1, .int .i64 a0_2, .int .i64 a0_3, .int .i64 a0_4] fun gb221 w3 hg hbox hb => ?_; have BK221 := Aside0.mk hbox; have GE221 := gB HB hg; replace HB := uB HB hb; clear hb hbox hg) | ((with_reducible refine gD 2 ?_); refine bxE 2 70 #[.int .i64 0, .int .i64 0, .int .i64 0, .int .i64 0, .int .i64 0] fun gb222 w4 hg hbox hb => ?_; have BK222 := Aside0.mk hbox; have GE222 := gB HB hg; have ⟨NB221_222, NB222_221⟩ := nB BK221 hg; replace BK221 := uK BK221 hb; replace HB := uB HB hb; clear hb hbox hg))
 replace BK221 := dK BK221
 replace BK222 := dK BK222
 replace HB := Aside0.mk (below_drew1 HB.out)
 refine sA (n := 14) (S := fun w' => w'.cell? ⟨gb221, 0, none⟩ = some (.int .i64 a0_0) ∧ w'.cell? ⟨gb221, 1, none⟩ = some (.int .i64 a0_1) ∧ w'.cell? ⟨gb221, 2, none⟩ = some (.int .i64 a0_2) ∧ w'.cell? ⟨gb221, 3, none⟩ = some (.int .i64 a0_3) ∧ w'.cell? ⟨gb221, 4, none⟩ = some (.int .i64 a0_4)) (ds := []) impl_Leg_reverse.tab1 impl_Leg_reverse.bits1 #[false, false, false, false, false, false, false, false, false, false, false, false, false, false] ⟨cb BK221 0, cb BK221 1, cb BK221 2, cb BK221 3, cb BK221 4⟩ fun hHeld HT_ HW_ => ?_
 generalize w4.drew = w5 at BK221 BK222 HB hHeld ⊢
 refine pA 0 3 HT_ ?_
 refine pA 2 5 HT_ ?_
 refine pA 4 7 HT_ ?_
 refine pA 6 9 HT_ ?_
 refine pA 9 12 HT_ ?_
 refine tA 1 4 HT_ HW_ hHeld ?_
 refine tA 3 6 HT_ HW_ hHeld ?_
 refine tA 5 8 HT_ HW_ hHeld ?_
 refine tA 7 10 HT_ HW_ hHeld ?_
 refine tA 10 13 HT_ HW_ hHeld ?_
 refine pA 11 14 HT_ ?_
 refine oA 8 (some 11) HT_ fun K hK => ?_
 refine rA Try.func114 (impl_back.calls a0_3 t223 _ A2.out) ?_
 rintro _ ⟨nd, rfl⟩
 refine hK.out _ _ ⟨cb BK221 0, cb BK221 1, cb BK221 2, cb BK221 3, cb BK221 4⟩ (fun hHeld => ?_)
 clear hK K
 refine nA ?_ (some 11)
 refine pA 12 15 HT_ ?_
 refine oA 13 none HT_ fun K hK => ?_
 have hs6 := ci BK222.out 0 0 rfl
 have hfs6 := blk_frozen BK222.out 0
 have hns6_0 := NB221_222.out
 have hms6_0 := NB222_221.out
 have hs7 := ci BK222.out 1 0 rfl
 have hfs7 := blk_frozen BK222.out 1
 have hs8 := ci BK222.out 2 0 rfl
 have hfs8 := blk_frozen BK222.out 2
 have hs9 := ci BK222.out 3 0 rfl
 have hfs9 := blk_frozen BK222.out 3
 have hs10 := ci BK222.out 4 0 rfl
 have hfs10 := blk_frozen BK222.out 4
 refine skip_ (w1 := ?_) (by rfl) rfl ?_ ?_
 rotate_left
 ·go_simp
  rfl
 refine hK.out _ _ (aF hHeld) (fun hHeld => ?_)
 clear hK K
 refine done_ (done_of HT_.out (by kernel_rfl)) ?_
 try go_wp2
 refine bodyPost_ret (results_cell_row rfl _ _ gb222 70 #[.int .i64 a0_1, .int .i64 a0_0, .int .i64 a0_2, .int .i64 t223, .int .i64 (wrap64 (-a0_4))] (0, 0) _ rfl (by exact pW BK222) Try.underlying70 rfl (by kernel_rfl)) rfl ?_
 exact ⟨eB, (bW HB)⟩

/-! ### impl_absolute: function 100 -/
def impl_absolute.f (a0 : Int) : Option (Int) := some (mx a0 (wrap64 (-a0)))
set_option maxHeartbeats 8000000 in
set_option maxRecDepth 100000 in
theorem impl_absolute.calls (a0 r : Int) (w : World) (h : impl_absolute.f a0 = some r) :
  Calls Try.prog 100 #[.int .i64 a0] w fun e w' => e = .returned (.int .i64 r) ∧ Below w.heap.size w w' := by
 have HB := Aside0.mk (Below.refl w.heap.size w)
 have H : (some (mx a0 (wrap64 (-a0)))) = some r := h
 clear h
 obtain ⟨ji2, hji2⟩ : ∃ j_ : Int, (mx a0 (wrap64 (-a0))) = j_ := ⟨_, rfl⟩
 replace H : (some ji2) = some r := by first | (rw [hji2] at H; exact H) | (simp only [hji2] at H ⊢; exact H)
 have hji2_ : (if a0 < (wrap64 (-a0)) then (wrap64 (-a0)) else a0) = ji2 := hji2
 obtain rfl := Option.some.inj H
 go_enter Try.func100, Try.ntmps100
 go_wp2
 go_ret
 exact ⟨by first | rfl | (simp [errW_none, errW_some] <;> rfl) | (simp only [← hji2]; first | rfl | (simp [errW_none, errW_some] <;> rfl)) | (simp [*, errW_none, errW_some] <;> rfl), (bW HB)⟩

/-! ### impl_turn: function 99 -/
def impl_turn.f (a0 a1 : Int) : Option (Int) := (impl_absolute.f (wrap64 (a0 - a1))).bind fun t224 => (some (mn t224 (wrap64 (360 - t224))))
set_option maxHeartbeats 8000000 in
set_option maxRecDepth 100000 in
theorem impl_turn.calls (a0 a1 r : Int) (w : World) (h : impl_turn.f a0 a1 = some r) :
  Calls Try.prog 99 #[.int .i64 a0, .int .i64 a1] w fun e w' => e = .returned (.int .i64 r) ∧ Below w.heap.size w w' := by
 have HB := Aside0.mk (Below.refl w.heap.size w)
 have H := h
 clear h
 unfold impl_turn.f at H
 replace H := bA H
 obtain ⟨t224, A3, H⟩ := H
 obtain ⟨ji4, hji4⟩ : ∃ j_ : Int, (mn t224 (wrap64 (360 - t224))) = j_ := ⟨_, rfl⟩
 replace H : (some ji4) = some r := by first | (rw [hji4] at H; exact H) | (simp only [hji4] at H ⊢; exact H)
 (try rw [hji4] at A3)
 have hji4_ : (if (wrap64 (360 - t224)) < t224 then (wrap64 (360 - t224)) else t224) = ji4 := hji4
 obtain rfl := Option.some.inj H
 go_enter Try.func99, Try.ntmps99
 go_wp2_with (first | ((with_reducible refine gC 100 ?_); refine lA (some 9) Try.func100 (impl_absolute.calls (wrap64 (a0 - a1)) t224 _ A3.out) ?_; intro w5 hb; replace HB := uB HB hb; (try clear hb)))
 go_ret
 exact ⟨by first | rfl | (simp [errW_none, errW_some] <;> rfl) | (simp only [← hji4]; first | rfl | (simp [errW_none, errW_some] <;> rfl)) | (simp [*, errW_none, errW_some] <;> rfl), (bW HB)⟩

/-! ### impl_agree: function 75 -/
def impl_agree.f (a0_0 a0_1 a0_2 a0_3 a0_4 a1_0 a1_1 a1_2 a1_3 a1_4 a2 a3 : Int) : Option (Bool) := if a1_0 = a0_0 then ((impl_turn.f a0_3 a1_3).bind fun t227 => (if t227 ≤ a2 then ((impl_absolute.f (wrap64 (a0_4 - a1_4))).bind fun t228 => (if t228 ≤ a2 then ((impl_absolute.f (wrap64 (a0_2 - a1_2))).bind fun t229 => (some (decide (t229 ≤ a3)))) else (some false))) else (some false))) else ((impl_Leg_reverse.f a1_0 a1_1 a1_2 a1_3 a1_4).bind fun bt230 => ((impl_turn.f a0_3 bt230.2.2.2.1).bind fun t235 => (if t235 ≤ a2 then ((impl_absolute.f (wrap64 (a0_4 - bt230.2.2.2.2))).bind fun t236 => (if t236 ≤ a2 then ((impl_absolute.f (wrap64 (a0_2 - bt230.2.2.1))).bind fun t237 => (some (decide (t237 ≤ a3)))) else (some false))) else (some false))))
set_option maxHeartbeats 8000000 in
set_option maxRecDepth 100000 in
theorem impl_agree.calls (a0_0 a0_1 a0_2 a0_3 a0_4 a1_0 a1_1 a1_2 a1_3 a1_4 a2 a3 : Int) (r : Bool) (w : World) (h : impl_agree.f a0_0 a0_1 a0_2 a0_3 a0_4 a1_0 a1_1 a1_2 a1_3 a1_4 a2 a3 = some r) :
  Calls Try.prog 75 #[.agg #[.int .i64 a0_0, .int .i64 a0_1, .int .i64 a0_2, .int .i64 a0_3, .int .i64 a0_4], .agg #[.int .i64 a1_0, .int .i64 a1_1, .int .i64 a1_2, .int .i64 a1_3, .int .i64 a1_4], .int .i64 a2, .int .i64 a3] w fun e w' => e = .returned (.bool r) ∧ Below w.heap.size w w' := by
 have hu70 := Try.underlying70
 have HB := Aside0.mk (Below.refl w.heap.size w)
 have H := h
 clear h
 unfold impl_agree.f at H
 replace H := ifI H
 rcases H with ⟨H, -, c5b0, c5b1⟩ | ⟨H, c5, c5b0, c5b1⟩
 ·replace H := bA H
  obtain ⟨t227, A6, H⟩ := H
  replace H := ifD H
  rcases H with ⟨H, -, c7b0⟩ | ⟨H, -, c7b0⟩
  ·replace H := bA H
   obtain ⟨t228, A8, H⟩ := H
   replace H := ifD H
   rcases H with ⟨H, -, c9b0⟩ | ⟨H, -, c9b0⟩
   ·replace H := bA H
    obtain ⟨t229, A10, H⟩ := H
    obtain rfl := Option.some.inj H
    go_enter Try.func75, Try.ntmps75
    go_wp2_with (first | ((with_reducible refine gD 4 ?_); refine bxE 4 70 #[.int .i64 a0_0, .int .i64 a0_1, .int .i64 a0_2, .int .i64 a0_3, .int .i64 a0_4] fun gb225 w11 hg hbox hb => ?_; have BK225 := Aside0.mk hbox; have GE225 := gB HB hg; replace HB := uB HB hb; clear hb hbox hg) | ((with_reducible refine gD 5 ?_); refine bxE 5 70 #[.int .i64 a1_0, .int .i64 a1_1, .int .i64 a1_2, .int .i64 a1_3, .int .i64 a1_4] fun gb226 w12 hg hbox hb => ?_; have BK226 := Aside0.mk hbox; have GE226 := gB HB hg; have ⟨NB225_226, NB226_225⟩ := nB BK225 hg; replace BK225 := uK BK225 hb; replace HB := uB HB hb; clear hb hbox hg; have hnb13 := NB226_225.out; have hnc13 := NB225_226.out; have ⟨hcz14_0, hcz14_1, hcz14_2, hcz14_3, hcz14_4, hfz14_0⟩ := cz5 BK226; have ⟨hcz15_0, hcz15_1, hcz15_2, hcz15_3, hcz15_4, hfz15_0⟩ := cz5 BK225) | ((with_reducible refine gC 99 ?_); refine lA (some 20) Try.func99 (impl_turn.calls a0_3 a1_3 t227 _ A6.out) ?_; intro w16 hb; replace BK225 := uK BK225 hb; replace BK226 := uK BK226 hb; replace HB := uB HB hb; (try clear hb); have ⟨hcz17_0, hcz17_1, hcz17_2, hcz17_3, hcz17_4, hfz17_0⟩ := cz5 BK225; have ⟨hcz18_0, hcz18_1, hcz18_2, hcz18_3, hcz18_4, hfz18_0⟩ := cz5 BK226) | (go_at_call 100; (with_reducible refine (impl_absolute.calls (wrap64 (a0_4 - a1_4)) t228 _ A8.out).mono ?_); rintro e w19 ⟨rfl, hb⟩; replace BK225 := uK BK225 hb; replace BK226 := uK BK226 hb; replace HB := uB HB hb; (try clear hb); have ⟨hcz20_0, hcz20_1, hcz20_2, hcz20_3, hcz20_4, hfz20_0⟩ := cz5 BK225; have ⟨hcz21_0, hcz21_1, hcz21_2, hcz21_3, hcz21_4, hfz21_0⟩ := cz5 BK226) | (go_at_call 100; (with_reducible refine (impl_absolute.calls (wrap64 (a0_2 - a1_2)) t229 _ A10.out).mono ?_); rintro e w22 ⟨rfl, hb⟩; replace BK225 := uK BK225 hb; replace BK226 := uK BK226 hb; replace HB := uB HB hb; (try clear hb)))
    go_ret
    exact ⟨eB, (bW HB)⟩
   ·obtain rfl := Option.some.inj H
    go_enter Try.func75, Try.ntmps75
    go_wp2_with (first | ((with_reducible refine gD 4 ?_); refine bxE 4 70 #[.int .i64 a0_0, .int .i64 a0_1, .int .i64 a0_2, .int .i64 a0_3, .int .i64 a0_4] fun gb225 w23 hg hbox hb => ?_; have BK225 := Aside0.mk hbox; have GE225 := gB HB hg; replace HB := uB HB hb; clear hb hbox hg) | ((with_reducible refine gD 5 ?_); refine bxE 5 70 #[.int .i64 a1_0, .int .i64 a1_1, .int .i64 a1_2, .int .i64 a1_3, .int .i64 a1_4] fun gb226 w24 hg hbox hb => ?_; have BK226 := Aside0.mk hbox; have GE226 := gB HB hg; have ⟨NB225_226, NB226_225⟩ := nB BK225 hg; replace BK225 := uK BK225 hb; replace HB := uB HB hb; clear hb hbox hg; have hnb25 := NB226_225.out; have hnc25 := NB225_226.out; have ⟨hcz26_0, hcz26_1, hcz26_2, hcz26_3, hcz26_4, hfz26_0⟩ := cz5 BK226; have ⟨hcz27_0, hcz27_1, hcz27_2, hcz27_3, hcz27_4, hfz27_0⟩ := cz5 BK225) | ((with_reducible refine gC 99 ?_); refine lA (some 20) Try.func99 (impl_turn.calls a0_3 a1_3 t227 _ A6.out) ?_; intro w28 hb; replace BK225 := uK BK225 hb; replace BK226 := uK BK226 hb; replace HB := uB HB hb; (try clear hb); have ⟨hcz29_0, hcz29_1, hcz29_2, hcz29_3, hcz29_4, hfz29_0⟩ := cz5 BK225; have ⟨hcz30_0, hcz30_1, hcz30_2, hcz30_3, hcz30_4, hfz30_0⟩ := cz5 BK226) | (go_at_call 100; (with_reducible refine (impl_absolute.calls (wrap64 (a0_4 - a1_4)) t228 _ A8.out).mono ?_); rintro e w31 ⟨rfl, hb⟩; replace BK225 := uK BK225 hb; replace BK226 := uK BK226 hb; replace HB := uB HB hb; (try clear hb)))
    go_ret
    exact ⟨eB, (bW HB)⟩
  ·obtain rfl := Option.some.inj H
   go_enter Try.func75, Try.ntmps75
   go_wp2_with (first | ((with_reducible refine gD 4 ?_); refine bxE 4 70 #[.int .i64 a0_0, .int .i64 a0_1, .int .i64 a0_2, .int .i64 a0_3, .int .i64 a0_4] fun gb225 w32 hg hbox hb => ?_; have BK225 := Aside0.mk hbox; have GE225 := gB HB hg; replace HB := uB HB hb; clear hb hbox hg) | ((with_reducible refine gD 5 ?_); refine bxE 5 70 #[.int .i64 a1_0, .int .i64 a1_1, .int .i64 a1_2, .int .i64 a1_3, .int .i64 a1_4] fun gb226 w33 hg hbox hb => ?_; have BK226 := Aside0.mk hbox; have GE226 := gB HB hg; have ⟨NB225_226, NB226_225⟩ := nB BK225 hg; replace BK225 := uK BK225 hb; replace HB := uB HB hb; clear hb hbox hg; have hnb34 := NB226_225.out; have hnc34 := NB225_226.out; have ⟨hcz35_0, hcz35_1, hcz35_2, hcz35_3, hcz35_4, hfz35_0⟩ := cz5 BK226; have ⟨hcz36_0, hcz36_1, hcz36_2, hcz36_3, hcz36_4, hfz36_0⟩ := cz5 BK225) | ((with_reducible refine gC 99 ?_); refine lA (some 20) Try.func99 (impl_turn.calls a0_3 a1_3 t227 _ A6.out) ?_; intro w37 hb; replace BK225 := uK BK225 hb; replace BK226 := uK BK226 hb; replace HB := uB HB hb; (try clear hb)))
   go_ret
   exact ⟨eB, (bW HB)⟩
 ·replace H := Option.bind_eq_some_iff.mp H
  obtain ⟨⟨t230, t231, t232, t233, t234⟩, A380, H⟩ := H
  replace H : ((impl_turn.f a0_3 t233).bind fun t235 => (if t235 ≤ a2 then ((impl_absolute.f (wrap64 (a0_4 - t234))).bind fun t236 => (if t236 ≤ a2 then ((impl_absolute.f (wrap64 (a0_2 - t232))).bind fun t237 => (some (decide (t237 ≤ a3)))) else (some false))) else (some false))) = some r := H
  have A38 := Aside0.mk A380
  clear A380
  replace H := bA H
  obtain ⟨t235, A39, H⟩ := H
  replace H := ifD H
  rcases H with ⟨H, -, c40b0⟩ | ⟨H, -, c40b0⟩
  ·replace H := bA H
   obtain ⟨t236, A41, H⟩ := H
   replace H := ifD H
   rcases H with ⟨H, -, c42b0⟩ | ⟨H, -, c42b0⟩
   ·replace H := bA H
    obtain ⟨t237, A43, H⟩ := H
    obtain rfl := Option.some.inj H
    go_enter Try.func75, Try.ntmps75
    go_wp2_with (first | ((with_reducible refine gD 4 ?_); refine bxE 4 70 #[.int .i64 a0_0, .int .i64 a0_1, .int .i64 a0_2, .int .i64 a0_3, .int .i64 a0_4] fun gb225 w44 hg hbox hb => ?_; have BK225 := Aside0.mk hbox; have GE225 := gB HB hg; replace HB := uB HB hb; clear hb hbox hg) | ((with_reducible refine gD 5 ?_); refine bxE 5 70 #[.int .i64 a1_0, .int .i64 a1_1, .int .i64 a1_2, .int .i64 a1_3, .int .i64 a1_4] fun gb226 w45 hg hbox hb => ?_; have BK226 := Aside0.mk hbox; have GE226 := gB HB hg; have ⟨NB225_226, NB226_225⟩ := nB BK225 hg; replace BK225 := uK BK225 hb; replace HB := uB HB hb; clear hb hbox hg; have hnb46 := NB226_225.out; have hnc46 := NB225_226.out; have ⟨hcz47_0, hcz47_1, hcz47_2, hcz47_3, hcz47_4, hfz47_0⟩ := cz5 BK226; have ⟨hcz48_0, hcz48_1, hcz48_2, hcz48_3, hcz48_4, hfz48_0⟩ := cz5 BK225) | ((with_reducible refine gC 98 ?_); refine lA (some 15) Try.func98 (impl_Leg_reverse.calls a1_0 a1_1 a1_2 a1_3 a1_4 t230 t231 t232 t233 t234 _ A38.out) ?_; intro w49 hb; replace BK225 := uK BK225 hb; replace BK226 := uK BK226 hb; replace HB := uB HB hb; (try clear hb); have ⟨hcz50_0, hcz50_1, hcz50_2, hcz50_3, hcz50_4, hfz50_0⟩ := cz5 BK226; have ⟨hcz51_0, hcz51_1, hcz51_2, hcz51_3, hcz51_4, hfz51_0⟩ := cz5 BK225) | ((with_reducible refine gC 99 ?_); refine lA (some 20) Try.func99 (impl_turn.calls a0_3 t233 t235 _ A39.out) ?_; intro w52 hb; replace BK225 := uQ BK225 hb #[.int .i64 a0_0, .int .i64 a0_1, .int .i64 a0_2, .int .i64 a0_3, .int .i64 a0_4]; replace BK226 := uQ BK226 hb #[.int .i64 t230, .int .i64 t231, .int .i64 t232, .int .i64 t233, .int .i64 t234]; replace HB := uB HB hb; (try clear hb); have ⟨hcz53_0, hcz53_1, hcz53_2, hcz53_3, hcz53_4, hfz53_0⟩ := cz5 BK225; have ⟨hcz54_0, hcz54_1, hcz54_2, hcz54_3, hcz54_4, hfz54_0⟩ := cz5 BK226) | (go_at_call 100; (with_reducible refine (impl_absolute.calls (wrap64 (a0_4 - t234)) t236 _ A41.out).mono ?_); rintro e w55 ⟨rfl, hb⟩; replace BK225 := uK BK225 hb; replace BK226 := uK BK226 hb; replace HB := uB HB hb; (try clear hb); have ⟨hcz56_0, hcz56_1, hcz56_2, hcz56_3, hcz56_4, hfz56_0⟩ := cz5 BK225; have ⟨hcz57_0, hcz57_1, hcz57_2, hcz57_3, hcz57_4, hfz57_0⟩ := cz5 BK226) | (go_at_call 100; (with_reducible refine (impl_absolute.calls (wrap64 (a0_2 - t232)) t237 _ A43.out).mono ?_); rintro e w58 ⟨rfl, hb⟩; replace BK225 := uK BK225 hb; replace BK226 := uK BK226 hb; replace HB := uB HB hb; (try clear hb)))
    go_ret
    exact ⟨eB, (bW HB)⟩
   ·obtain rfl := Option.some.inj H
    go_enter Try.func75, Try.ntmps75
    go_wp2_with (first | ((with_reducible refine gD 4 ?_); refine bxE 4 70 #[.int .i64 a0_0, .int .i64 a0_1, .int .i64 a0_2, .int .i64 a0_3, .int .i64 a0_4] fun gb225 w59 hg hbox hb => ?_; have BK225 := Aside0.mk hbox; have GE225 := gB HB hg; replace HB := uB HB hb; clear hb hbox hg) | ((with_reducible refine gD 5 ?_); refine bxE 5 70 #[.int .i64 a1_0, .int .i64 a1_1, .int .i64 a1_2, .int .i64 a1_3, .int .i64 a1_4] fun gb226 w60 hg hbox hb => ?_; have BK226 := Aside0.mk hbox; have GE226 := gB HB hg; have ⟨NB225_226, NB226_225⟩ := nB BK225 hg; replace BK225 := uK BK225 hb; replace HB := uB HB hb; clear hb hbox hg; have hnb61 := NB226_225.out; have hnc61 := NB225_226.out; have ⟨hcz62_0, hcz62_1, hcz62_2, hcz62_3, hcz62_4, hfz62_0⟩ := cz5 BK226; have ⟨hcz63_0, hcz63_1, hcz63_2, hcz63_3, hcz63_4, hfz63_0⟩ := cz5 BK225) | ((with_reducible refine gC 98 ?_); refine lA (some 15) Try.func98 (impl_Leg_reverse.calls a1_0 a1_1 a1_2 a1_3 a1_4 t230 t231 t232 t233 t234 _ A38.out) ?_; intro w64 hb; replace BK225 := uK BK225 hb; replace BK226 := uK BK226 hb; replace HB := uB HB hb; (try clear hb); have ⟨hcz65_0, hcz65_1, hcz65_2, hcz65_3, hcz65_4, hfz65_0⟩ := cz5 BK226; have ⟨hcz66_0, hcz66_1, hcz66_2, hcz66_3, hcz66_4, hfz66_0⟩ := cz5 BK225) | ((with_reducible refine gC 99 ?_); refine lA (some 20) Try.func99 (impl_turn.calls a0_3 t233 t235 _ A39.out) ?_; intro w67 hb; replace BK225 := uQ BK225 hb #[.int .i64 a0_0, .int .i64 a0_1, .int .i64 a0_2, .int .i64 a0_3, .int .i64 a0_4]; replace BK226 := uQ BK226 hb #[.int .i64 t230, .int .i64 t231, .int .i64 t232, .int .i64 t233, .int .i64 t234]; replace HB := uB HB hb; (try clear hb); have ⟨hcz68_0, hcz68_1, hcz68_2, hcz68_3, hcz68_4, hfz68_0⟩ := cz5 BK225; have ⟨hcz69_0, hcz69_1, hcz69_2, hcz69_3, hcz69_4, hfz69_0⟩ := cz5 BK226) | (go_at_call 100; (with_reducible refine (impl_absolute.calls (wrap64 (a0_4 - t234)) t236 _ A41.out).mono ?_); rintro e w70 ⟨rfl, hb⟩; replace BK225 := uK BK225 hb; replace BK226 := uK BK226 hb; replace HB := uB HB hb; (try clear hb)))
    go_ret
    exact ⟨eB, (bW HB)⟩
  ·obtain rfl := Option.some.inj H
   go_enter Try.func75, Try.ntmps75
   go_wp2_with (first | ((with_reducible refine gD 4 ?_); refine bxE 4 70 #[.int .i64 a0_0, .int .i64 a0_1, .int .i64 a0_2, .int .i64 a0_3, .int .i64 a0_4] fun gb225 w71 hg hbox hb => ?_; have BK225 := Aside0.mk hbox; have GE225 := gB HB hg; replace HB := uB HB hb; clear hb hbox hg) | ((with_reducible refine gD 5 ?_); refine bxE 5 70 #[.int .i64 a1_0, .int .i64 a1_1, .int .i64 a1_2, .int .i64 a1_3, .int .i64 a1_4] fun gb226 w72 hg hbox hb => ?_; have BK226 := Aside0.mk hbox; have GE226 := gB HB hg; have ⟨NB225_226, NB226_225⟩ := nB BK225 hg; replace BK225 := uK BK225 hb; replace HB := uB HB hb; clear hb hbox hg; have hnb73 := NB226_225.out; have hnc73 := NB225_226.out; have ⟨hcz74_0, hcz74_1, hcz74_2, hcz74_3, hcz74_4, hfz74_0⟩ := cz5 BK226; have ⟨hcz75_0, hcz75_1, hcz75_2, hcz75_3, hcz75_4, hfz75_0⟩ := cz5 BK225) | ((with_reducible refine gC 98 ?_); refine lA (some 15) Try.func98 (impl_Leg_reverse.calls a1_0 a1_1 a1_2 a1_3 a1_4 t230 t231 t232 t233 t234 _ A38.out) ?_; intro w76 hb; replace BK225 := uK BK225 hb; replace BK226 := uK BK226 hb; replace HB := uB HB hb; (try clear hb); have ⟨hcz77_0, hcz77_1, hcz77_2, hcz77_3, hcz77_4, hfz77_0⟩ := cz5 BK226; have ⟨hcz78_0, hcz78_1, hcz78_2, hcz78_3, hcz78_4, hfz78_0⟩ := cz5 BK225) | ((with_reducible refine gC 99 ?_); refine lA (some 20) Try.func99 (impl_turn.calls a0_3 t233 t235 _ A39.out) ?_; intro w79 hb; replace BK225 := uQ BK225 hb #[.int .i64 a0_0, .int .i64 a0_1, .int .i64 a0_2, .int .i64 a0_3, .int .i64 a0_4]; replace BK226 := uQ BK226 hb #[.int .i64 t230, .int .i64 t231, .int .i64 t232, .int .i64 t233, .int .i64 t234]; replace HB := uB HB hb; (try clear hb)))
   go_ret
   exact ⟨eB, (bW HB)⟩

/-! ### impl_xMatched: function 138 -/
theorem cells5 {W : World} {b : Nat} {t : TypeId} {u0 u1 u2 u3 u4 v0 v1 v2 v3 v4 : Value} (h : W.heap[b]? = some (.cells #[u0, u1, u2, u3, u4] t (0, 0))) : (((((W.setCell ⟨b, 0, none⟩ v0).setCell ⟨b, 1, none⟩ v1).setCell ⟨b, 2, none⟩ v2).setCell ⟨b, 3, none⟩ v3).setCell ⟨b, 4, none⟩ v4).heap[b]? = some (.cells #[v0, v1, v2, v3, v4] t (0, 0)) :=
 (blk_put (cs := #[v0, v1, v2, v3, u4]) (blk_put (cs := #[v0, v1, v2, u3, u4]) (blk_put (cs := #[v0, v1, u2, u3, u4]) (blk_put (cs := #[v0, u1, u2, u3, u4]) (blk_put (cs := #[u0, u1, u2, u3, u4]) h 0 v0 rfl) 1 v1 rfl) 2 v2 rfl) 3 v3 rfl) 4 v4 rfl)

theorem getD_drop' {α : Type} (xs : List α) (i : Nat) (d : α) (h : i < xs.length) : xs.drop i = xs.getD i d :: xs.drop (i + 1) := by
 rw [List.drop_eq_getElem_cons h]
 simp [List.getD, List.getElem?_eq_getElem h]
theorem getD_mem' {α : Type} (xs : List α) (i : Nat) (d : α) (h : i < xs.length) : xs.getD i d ∈ xs := by
 rw [List.getD_eq_getElem?_getD, List.getElem?_eq_getElem h]
 exact List.getElem_mem h
def idxP70 (p : S70 → Bool) : List (S70) → Int → Int
 | [], _ => -1
 | x :: l, i => if p x = true then i else idxP70 p l (i + 1)
theorem idxP70_any (p : S70 → Bool) : ∀ (l : List (S70)) (i : Int), 0 ≤ i → decide (0 ≤ idxP70 p l i) = l.any p := by
 intro l
 induction l with
 | nil => intro i h; rfl
 | cons x l ih =>
  intro i h
  rw [idxP70, List.any_cons]
  by_cases c : p x = true
  ·rw [if_pos c, c, Bool.true_or]; exact decide_eq_true h
  ·rw [if_neg c, Bool.eq_false_iff.mpr c, Bool.false_or]; exact ih (i + 1) (by omega)

set_option maxHeartbeats 4000000 in
set_option maxRecDepth 100000 in
theorem IndexFunc_matched (p : S70 → Bool) (V : Value) (A0 : Option Addr) (c0 : Nat) (l0 : List (S70)) (w : World) (hr0 : Kd.C k70 w A0 l0.length l0) (hc0 : l0.length ≤ c0)
  (hp : ∀ (x : S70) (W : World), x ∈ l0 → Below w.heap.size w W → Calls Try.prog 101 #[.agg #[.int .i64 x.f0, .int .i64 x.f1, .int .i64 x.f2, .int .i64 x.f3, .int .i64 x.f4], V] W fun e W' => e = .returned (.bool (p x)) ∧ Below W.heap.size W W') :
  Calls Try.prog 94 #[.slice A0 l0.length c0, .func (.func 101) #[] #[V]] w fun e w' => e = .returned (.int .i64 (idxP70 p l0 0)) ∧ Below w.heap.size w w' := by
 have hu := Try.underlying70
 have hm := hr0.2.1
 go_enter Try.func94, Try.ntmps94
 go_wp2
 go_loopw [8] (fun v wr => ∃ i : Nat, i ≤ l0.length ∧ v = .int .i64 i ∧ idxP70 p l0 0 = idxP70 p (l0.drop i) i ∧ Below w.heap.size w wr) (fun v _ => l0.length - (intOf v).toNat)
 case atStart => exact ⟨0, by omega, rfl, by simp, Below.refl _ _⟩
 case round =>
  obtain ⟨i, hi, rfl, he, hb⟩ := hrel
  by_cases hlt : i < l0.length
  ·obtain ⟨ad, rfl, h0, h1, h2, h3, h4⟩ := at_T70 (Kd.C_below hr0 hb) (i : Int) (by omega) (by omega)
   have hx : rd_T70 l0 (i : Int) = l0.getD i z70 := by unfold rd_T70; rw [Int.toNat_natCast]
   have hmem := getD_mem' l0 i z70 hlt
   rw [hx] at h0 h1 h2 h3 h4
   rw [getD_drop' l0 i z70 hlt] at he
   generalize l0.getD i z70 = x at h0 h1 h2 h3 h4 he hx hmem
   clear hx
   rw [Int.toNat_natCast] at h0 h1 h2 h3 h4
   cases hpx : p x with
   | true =>
    have hq := hp x wr hmem hb
    rw [hpx] at hq
    have he' := Aside0.mk he
    have hb' := Aside0.mk hb
    have hpx' := Aside0.mk hpx
    clear he hb hp hpx hmem
    go_wp2_with (go_at_call 101; refine hq.mono ?_; rintro e w1 ⟨rfl, hb1⟩)
    go_ret
    refine ⟨?_, hb'.out.trans (hb1.mono hb'.out.size)⟩
    rw [he'.out, idxP70, if_pos hpx'.out]
    rfl
   | false =>
    have hq := hp x wr hmem hb
    rw [hpx] at hq
    have he' := Aside0.mk he
    have hb' := Aside0.mk hb
    have hpx' := Aside0.mk hpx
    have hp' := Aside0.mk hp
    clear he hb hp hpx hmem
    go_wp2_with (go_at_call 101; refine hq.mono ?_; rintro e w1 ⟨rfl, hb1⟩)
    go_roundw
    case rel => exact ⟨i + 1, by omega, by go_num, by rw [he'.out, idxP70, hpx'.out]; rfl, hb'.out.trans (hb1.mono hb'.out.size)⟩
    case measure => simp [intOf]; omega
  ·have hd : l0.drop i = [] := List.drop_eq_nil_of_le (by omega)
   rw [hd] at he
   have he' := Aside0.mk he
   have hb' := Aside0.mk hb
   clear he hb hp hd
   go_wp2
   go_ret
   exact ⟨by rw [he'.out, idxP70]; rfl, hb'.out⟩

set_option maxHeartbeats 4000000 in
theorem ContainsFunc_matched (p : S70 → Bool) (V : Value) (A0 : Option Addr) (c0 : Nat) (l0 : List (S70)) (w : World) (hr0 : Kd.C k70 w A0 l0.length l0) (hc0 : l0.length ≤ c0)
  (hp : ∀ (x : S70) (W : World), x ∈ l0 → Below w.heap.size w W → Calls Try.prog 101 #[.agg #[.int .i64 x.f0, .int .i64 x.f1, .int .i64 x.f2, .int .i64 x.f3, .int .i64 x.f4], V] W fun e W' => e = .returned (.bool (p x)) ∧ Below W.heap.size W W') :
  Calls Try.prog 68 #[.slice A0 l0.length c0, .func (.func 101) #[] #[V]] w fun e w' => e = .returned (.bool (l0.any p)) ∧ Below w.heap.size w w' := by
 have hcon := IndexFunc_matched p V A0 c0 l0 w hr0 hc0 hp
 have ha := idxP70_any p l0 0 (by omega)
 generalize idxP70 p l0 0 = q at hcon ha
 generalize l0.any p = b at ha ⊢
 clear hp
 go_enter Try.func68, Try.ntmps68
 go_wp2_with (go_at_call 94; refine hcon.mono ?_; rintro e w1 ⟨rfl, hb1⟩)
 go_ret
 exact ⟨rfl, hb1⟩

theorem joins_tot (a0_0 a0_1 a0_2 a0_3 a0_4 a1_0 a1_1 a1_2 a1_3 a1_4 : Int) : ∃ r, impl_joins.f a0_0 a0_1 a0_2 a0_3 a0_4 a1_0 a1_1 a1_2 a1_3 a1_4 = some r := by
 unfold impl_joins.f
 repeat' split
 all_goals exact ⟨_, rfl⟩
set_option maxRecDepth 100000 in
set_option maxHeartbeats 2000000 in
theorem matchedClosure (x : S70) (y0 y1 y2 y3 y4 : Int) (r1 r2 : Bool) (b : Nat) (W : World) (hb : W.heap[b]? = some (.cells #[.int .i64 y0, .int .i64 y1, .int .i64 y2, .int .i64 y3, .int .i64 y4] 70 (0, 0))) (h1 : impl_joins.f x.f0 x.f1 x.f2 x.f3 x.f4 y0 y1 y2 y3 y4 = some r1) (h2 : impl_agree.f x.f0 x.f1 x.f2 x.f3 x.f4 y0 y1 y2 y3 y4 0 0 = some r2) :
  Calls Try.prog 101 #[.agg #[.int .i64 x.f0, .int .i64 x.f1, .int .i64 x.f2, .int .i64 x.f3, .int .i64 x.f4], .pointer (some ⟨b, 0, none⟩)] W fun e W' => e = .returned (.bool (r1 && r2)) ∧ Below W.heap.size W W' := by
 have hu := Try.underlying70
 have g0 := (blk_cell hb 0).trans rfl
 have hl := World.block_lt_of_cell? W _ g0
 have HB := Aside0.mk hb
 have hc1 := fun V => impl_joins.calls x.f0 x.f1 x.f2 x.f3 x.f4 y0 y1 y2 y3 y4 r1 V h1
 have hc2 := fun V => impl_agree.calls x.f0 x.f1 x.f2 x.f3 x.f4 y0 y1 y2 y3 y4 0 0 r2 V h2
 have h0 := (blk_cell hb 0).trans rfl
 have h1' := (blk_cell hb 1).trans rfl
 have h2' := (blk_cell hb 2).trans rfl
 have h3' := (blk_cell hb 3).trans rfl
 have h4' := (blk_cell hb 4).trans rfl
 clear h1 h2 hb g0
 cases r1 with
 | false =>
  go_enter Try.func101, Try.ntmps101
  go_wp2_with (go_at_call 70; refine (hc1 _).mono ?_; rintro e w1 ⟨rfl, hb1⟩)
  go_ret
  exact ⟨rfl, ((Below.refl _ W).alloc (Nat.le_refl _) _).trans (hb1.mono (by simp))⟩
 | true =>
  go_enter Try.func101, Try.ntmps101
  go_wp2_with (first | (go_at_call 70; refine (hc1 _).mono ?_; rintro e w1 ⟨rfl, hb1⟩; have hB : Below W.heap.size W w1 := ((Below.refl _ W).alloc (Nat.le_refl _) _).trans (hb1.mono (by simp)); have e0 : w1.cell? ⟨b, 0, none⟩ = some (.int .i64 y0) := (hB.cell hl).trans h0; have e1 : w1.cell? ⟨b, 1, none⟩ = some (.int .i64 y1) := (hB.cell hl).trans h1'; have e2 : w1.cell? ⟨b, 2, none⟩ = some (.int .i64 y2) := (hB.cell hl).trans h2'; have e3 : w1.cell? ⟨b, 3, none⟩ = some (.int .i64 y3) := (hB.cell hl).trans h3'; have e4 : w1.cell? ⟨b, 4, none⟩ = some (.int .i64 y4) := (hB.cell hl).trans h4'; have u0 : w1.cell? ⟨W.heap.size, 0, none⟩ = some (.int .i64 x.f0) := (hb1.cell (by simp)).trans (by simp); have u1 : w1.cell? ⟨W.heap.size, 1, none⟩ = some (.int .i64 x.f1) := (hb1.cell (by simp)).trans (by simp); have u2 : w1.cell? ⟨W.heap.size, 2, none⟩ = some (.int .i64 x.f2) := (hb1.cell (by simp)).trans (by simp); have u3 : w1.cell? ⟨W.heap.size, 3, none⟩ = some (.int .i64 x.f3) := (hb1.cell (by simp)).trans (by simp); have u4 : w1.cell? ⟨W.heap.size, 4, none⟩ = some (.int .i64 x.f4) := (hb1.cell (by simp)).trans (by simp); have HB1 := Aside0.mk hB; clear hB hb1 h0 h1' h2' h3' h4') | (go_at_call 75; refine (hc2 _).mono ?_; rintro e w2 ⟨rfl, hb2⟩))
  go_ret
  exact ⟨by simp, HB1.out.trans (hb2.mono HB1.out.size)⟩
def impl_xMatched.f (l0 : List (S70)) (a1_0 a1_1 a1_2 a1_3 a1_4 : Int) : Option Bool :=
 if l0.all (fun x => (impl_agree.f x.f0 x.f1 x.f2 x.f3 x.f4 a1_0 a1_1 a1_2 a1_3 a1_4 0 0).isSome) = true then some (l0.any fun x => (impl_joins.f x.f0 x.f1 x.f2 x.f3 x.f4 a1_0 a1_1 a1_2 a1_3 a1_4 == some true) && (impl_agree.f x.f0 x.f1 x.f2 x.f3 x.f4 a1_0 a1_1 a1_2 a1_3 a1_4 0 0 == some true)) else none
theorem impl_xMatched.calls (A0 : Option Addr) (c0 : Nat) (l0 : List (S70)) (a1_0 a1_1 a1_2 a1_3 a1_4 : Int) (r : Bool) (w : World) (hr0 : Kd.C k70 w A0 l0.length l0) (hc0 : l0.length ≤ c0) (h : impl_xMatched.f l0 a1_0 a1_1 a1_2 a1_3 a1_4 = some r) {b : Nat} (hcell : w.heap[b]? = some (.cells #[.int .i64 a1_0, .int .i64 a1_1, .int .i64 a1_2, .int .i64 a1_3, .int .i64 a1_4] 70 (0, 0)) := by first | assumption | (refine Aside0.out ?_; assumption) | (apply cells5; refine Aside0.out ?_; assumption)) :
  Calls Try.prog 68 #[.slice A0 l0.length c0, .func (.func 101) #[] #[.pointer (some ⟨b, 0, none⟩)]] w fun e w' => e = .returned (.bool r) ∧ Below w.heap.size w w' := by
 unfold impl_xMatched.f at h
 split at h
 ·rename_i ha
  obtain rfl := Option.some.inj h
  refine ContainsFunc_matched (fun x => (impl_joins.f x.f0 x.f1 x.f2 x.f3 x.f4 a1_0 a1_1 a1_2 a1_3 a1_4 == some true) && (impl_agree.f x.f0 x.f1 x.f2 x.f3 x.f4 a1_0 a1_1 a1_2 a1_3 a1_4 0 0 == some true)) (.pointer (some ⟨b, 0, none⟩)) A0 c0 l0 w hr0 hc0 (fun x W hx hB => ?_)
  obtain ⟨r1, hr1⟩ := joins_tot x.f0 x.f1 x.f2 x.f3 x.f4 a1_0 a1_1 a1_2 a1_3 a1_4
  obtain ⟨r2, hr2⟩ := Option.isSome_iff_exists.1 (List.all_eq_true.1 ha x hx)
  have := matchedClosure x a1_0 a1_1 a1_2 a1_3 a1_4 r1 r2 b W (blk_below hcell hB) hr1 hr2
  simp only [hr1, hr2]
  cases r1 <;> cases r2 <;> exact this
 ·cases h

/-! ### impl_matchScore: function 77 -/
def impl_matchScore.l0 : Nat → List (S70) → List Int → Int → List (S70) → Int → Int → Option (Int)
  | 0, _, _, _, _, _, _ => none
  | k + 1, x0, x2, x7, x10, x11, x12 => if x12 < x11 then (if 0 ≤ x12 then (if x12 < (x10.length : Int) then ((impl_renamed.f ((rd_T70 x10 x12).f0) ((rd_T70 x10 x12).f1) ((rd_T70 x10 x12).f2) ((rd_T70 x10 x12).f3) ((rd_T70 x10 x12).f4) x2).bind fun bt240 => ((impl_xMatched.f x0 bt240.1 bt240.2.1 bt240.2.2.1 bt240.2.2.2.1 bt240.2.2.2.2).bind fun t245 => (if t245 = true then (impl_matchScore.l0 k x0 x2 (wrap64 (x7 + 1)) x10 x11 (wrap64 (x12 + 1))) else (impl_matchScore.l0 k x0 x2 x7 x10 x11 (wrap64 (x12 + 1)))))) else (none)) else (none)) else (some x7)
def impl_matchScore.f (k : Nat) (l0 : List (S70)) (l1 : List (S70)) (l2 : List Int) : Option (Int) := impl_matchScore.l0 k l0 l2 0 l1 (l1.length : Int) 0
theorem impl_matchScore.mono_l : ∀ k, (∀ y0 y1 y2 y3 y4 y5, LeO (impl_matchScore.l0 k y0 y1 y2 y3 y4 y5) (impl_matchScore.l0 (k + 1) y0 y1 y2 y3 y4 y5))
  | 0 => fun _ _ _ _ _ _ r h => by simp [impl_matchScore.l0] at h
  | k + 1 => by
    have ih0 := impl_matchScore.mono_l k
    · intro y0 y1 y2 y3 y4 y5
      unfold impl_matchScore.l0
      repeat' first
      | (with_reducible exact ih0 _ _ _ _ _ _)
      | (with_reducible exact LeO.refl _)
      | (with_reducible exact LeO.none _)
      | (with_reducible refine LeO.ite ?_ ?_)
      | (with_reducible refine LeO.bind ?_ (fun _ => ?_))
      | exact ih0 _ _ _ _ _ _
      | exact LeO.none _
      | refine LeO.ite ?_ ?_
      | refine LeO.bind ?_ (fun _ => ?_)
theorem impl_matchScore.mono : ∀ a0 a1 a2 k, LeO (impl_matchScore.f k a0 a1 a2) (impl_matchScore.f (k + 1) a0 a1 a2) := by
  intro a0 a1 a2 k
  have ih0 := impl_matchScore.mono_l k
  unfold impl_matchScore.f
  repeat' first
      | (with_reducible exact ih0 _ _ _ _ _ _)
      | (with_reducible exact LeO.refl _)
      | (with_reducible exact LeO.none _)
      | (with_reducible refine LeO.ite ?_ ?_)
      | (with_reducible refine LeO.bind ?_ (fun _ => ?_))
      | exact ih0 _ _ _ _ _ _
      | exact LeO.none _
      | refine LeO.ite ?_ ?_
      | refine LeO.bind ?_ (fun _ => ?_)
set_option maxHeartbeats 8000000 in
set_option maxRecDepth 100000 in
theorem impl_matchScore.calls (k : Nat) (A0 : Option Addr) (c0 : Nat) (l0 : List (S70)) (A1 : Option Addr) (c1 : Nat) (l1 : List (S70)) (A2 : Option Addr) (c2 : Nat) (l2 : List Int) (r : Int) (w : World) (hr0 : Kd.C k70 w A0 l0.length l0) (hc0 : l0.length ≤ c0) (hr1 : Kd.C k70 w A1 l1.length l1) (hc1 : l1.length ≤ c1) (hr2 : Kd.C (Kd.int .i64) w A2 l2.length l2) (hc2 : l2.length ≤ c2) (h : impl_matchScore.f k l0 l1 l2 = some r) :
    Calls Try.prog 77 #[.slice A0 l0.length c0, .slice A1 l1.length c1, .slice A2 l2.length c2] w fun e w' => e = .returned (.int .i64 r) ∧ Below w.heap.size w w' := by
  have hu70 := Try.underlying70
  have HR0 := Aside0.mk hr0
  have HC0 := Aside0.mk hc0
  clear hr0 hc0
  have HR1 := Aside0.mk hr1
  have HC1 := Aside0.mk hc1
  clear hr1 hc1
  have HR2 := Aside0.mk hr2
  have HC2 := Aside0.mk hc2
  clear hr2 hc2
  have HB := Aside0.mk (Below.refl w.heap.size w)
  have H : (impl_matchScore.l0 k l0 l2 0 l1 (l1.length : Int) 0) = some r := h
  clear h
  have H' := Aside0.mk H
  clear H
  go_enter Try.func77, Try.ntmps77
  go_wp2
  go_loopg [7, 12] k (fun kq v7 v12 w' => ∃ (x7_1 : Int) (x12_1 : Int), v7 = .int .i64 x7_1 ∧ v12 = .int .i64 x12_1 ∧ Aside0 (impl_matchScore.l0 kq l0 l2 x7_1 l1 (l1.length : Int) x12_1 = some r) ∧ Aside0 (kq ≤ k) ∧ Aside0 (Below w.heap.size w w'))
  case atStart => exact ⟨(0), (0), (by first | rfl | (simp; done) | (simp [*]; done)), (by first | rfl | (simp; done) | (simp [*]; done)), H', ⟨Nat.le_refl _⟩, ⟨(upB HB.out)⟩⟩
  case round =>
    clear H'
    try clear c1
    try clear c2
    obtain ⟨x7_1, x12_1, rfl, rfl, HA, HK1, HB⟩ := hrel
    cases gk with
    | zero => exact absurd HA.out (by simp [impl_matchScore.l0])
    | succ k1 =>
      have H := HA.out
      clear HA
      simp only [impl_matchScore.l0] at H
      by_cases c4 : x12_1 < (l1.length : Int)
      · rw [if_pos c4] at H
        have c4b0 : decide (x12_1 < (l1.length : Int)) = true := decide_eq_true c4
        clear c4
        by_cases c5 : 0 ≤ x12_1
        · rw [if_pos c5] at H
          have c5b0 : decide (0 ≤ x12_1) = true := decide_eq_true c5
          clear c5
          by_cases c6 : x12_1 < (l1.length : Int)
          · rw [if_pos c6] at H
            have c6b0 : decide (x12_1 < (l1.length : Int)) = true := decide_eq_true c6
            clear c6
            replace H := Option.bind_eq_some_iff.mp H
            obtain ⟨⟨t240, t241, t242, t243, t244⟩, A70, H⟩ := H
            replace H : ((impl_xMatched.f l0 t240 t241 t242 t243 t244).bind fun t245 => (if t245 = true then (impl_matchScore.l0 k1 l0 l2 (wrap64 (x7_1 + 1)) l1 (l1.length : Int) (wrap64 (x12_1 + 1))) else (impl_matchScore.l0 k1 l0 l2 x7_1 l1 (l1.length : Int) (wrap64 (x12_1 + 1))))) = some r := H
            have A7 := Aside0.mk A70
            clear A70
            replace H := Option.bind_eq_some_iff.mp H
            obtain ⟨t245, A80, H⟩ := H
            replace H : (if t245 = true then (impl_matchScore.l0 k1 l0 l2 (wrap64 (x7_1 + 1)) l1 (l1.length : Int) (wrap64 (x12_1 + 1))) else (impl_matchScore.l0 k1 l0 l2 x7_1 l1 (l1.length : Int) (wrap64 (x12_1 + 1)))) = some r := H
            have A8 := Aside0.mk A80
            clear A80
            by_cases c9 : t245 = true
            · subst c9
              have H1 : (impl_matchScore.l0 k1 l0 l2 (wrap64 (x7_1 + 1)) l1 (l1.length : Int) (wrap64 (x12_1 + 1))) = some r := by rw [if_pos rfl] at H; exact H
              clear H
              have H := H1
              clear H1
              have H' := Aside0.mk H
              clear H
              have p238 : 0 ≤ (x12_1 : Int) := of_decide_eq_true asmB
              have q238 : x12_1 < (l1.length : Int) := of_decide_eq_true asmB
              obtain ⟨ad238, e238, hx238_0, hx238_1, hx238_2, hx238_3, hx238_4⟩ := at_T70 HR1.out x12_1 p238 q238
              cases e238
              replace hx238_0 := bx HB.out hx238_0
              replace hx238_1 := bx HB.out hx238_1
              replace hx238_2 := bx HB.out hx238_2
              replace hx238_3 := bx HB.out hx238_3
              replace hx238_4 := bx HB.out hx238_4
              replace p238 := eq_true p238
              replace q238 := eq_true q238
              go_wp2_with (first | ((with_reducible refine gate_dst (N := 9) rfl ?_); refine box_event ?hg (N := 9) ?hd (cs := #[.int .i64 0, .int .i64 0, .int .i64 0, .int .i64 0, .int .i64 0]) (t := 70) ?hr ?_; (case hd => rfl); (case hg => rfl); (case hr => first | (go_simp; done) | (go_simp; rfl)); intro gb239 hg w10 hbox hb; have n0_ := Aside0.mk (below_step (upB HB.out) hb); have n1_ := Aside0.mk (hbox); have n2_ := Aside0.mk ((by rw [hg]; exact (below_size (upB HB.out)) : w.heap.size ≤ gb239)); have n3_ := Aside0.mk ((by rw [hg]; exact (below_size (upB HB.out)) : w.heap.size ≤ gb239)); clear HB; have HB := n0_; have BK239 := n1_; have GW239 := n2_; have GE239 := n3_; clear n0_ n1_ n2_ n3_; clear hb hbox hg; have hcz11_0 := ci BK239.out 0 0 rfl; have hcz11_1 := ci BK239.out 1 0 rfl; have hcz11_2 := ci BK239.out 2 0 rfl; have hcz11_3 := ci BK239.out 3 0 rfl; have hcz11_4 := ci BK239.out 4 0 rfl; have hfz11_0 := fun j_ : Nat => blk_frozen BK239.out j_) | ((with_reducible refine gate_callee (f := 72) rfl ?_); refine goesL_ (some 18) rfl rfl Try.func72 (by kernel_rfl) rfl #[.agg #[.int .i64 ((rd_T70 l1 x12_1).f0), .int .i64 ((rd_T70 l1 x12_1).f1), .int .i64 ((rd_T70 l1 x12_1).f2), .int .i64 ((rd_T70 l1 x12_1).f3), .int .i64 ((rd_T70 l1 x12_1).f4)], .slice A2 l2.length c2] rfl argsB ?_; (with_reducible refine (impl_renamed.calls ((rd_T70 l1 x12_1).f0) ((rd_T70 l1 x12_1).f1) ((rd_T70 l1 x12_1).f2) ((rd_T70 l1 x12_1).f3) ((rd_T70 l1 x12_1).f4) _ _ l2 t240 t241 t242 t243 t244 _ ?side1 ?side2 A7.out).mono ?_); (case side1 => exact Kd.C_below HR2.out (upB1 HB.out GE239.out)); (case side2 => exact HC2.out); rintro e w12 ⟨rfl, hb⟩; refine ⟨_, rfl, ?_⟩; have n0_ := Aside0.mk (blk_below (g := gb239) (o := .cells #[.int .i64 ((rd_T70 l1 x12_1).f0), .int .i64 ((rd_T70 l1 x12_1).f1), .int .i64 ((rd_T70 l1 x12_1).f2), .int .i64 ((rd_T70 l1 x12_1).f3), .int .i64 ((rd_T70 l1 x12_1).f4)] 70 (0, 0)) (by (with_reducible repeat (first | refine blk_drewN ?_ _ | refine blk_drew ?_ | refine blk_alloc ?_ _)); refine blk_put (cs := #[.int .i64 ((rd_T70 l1 x12_1).f0), .int .i64 ((rd_T70 l1 x12_1).f1), .int .i64 ((rd_T70 l1 x12_1).f2), .int .i64 ((rd_T70 l1 x12_1).f3), .int .i64 0]) ?_ 4 _ rfl; (with_reducible repeat (first | refine blk_drewN ?_ _ | refine blk_drew ?_ | refine blk_alloc ?_ _)); refine blk_put (cs := #[.int .i64 ((rd_T70 l1 x12_1).f0), .int .i64 ((rd_T70 l1 x12_1).f1), .int .i64 ((rd_T70 l1 x12_1).f2), .int .i64 0, .int .i64 0]) ?_ 3 _ rfl; (with_reducible repeat (first | refine blk_drewN ?_ _ | refine blk_drew ?_ | refine blk_alloc ?_ _)); refine blk_put (cs := #[.int .i64 ((rd_T70 l1 x12_1).f0), .int .i64 ((rd_T70 l1 x12_1).f1), .int .i64 0, .int .i64 0, .int .i64 0]) ?_ 2 _ rfl; (with_reducible repeat (first | refine blk_drewN ?_ _ | refine blk_drew ?_ | refine blk_alloc ?_ _)); refine blk_put (cs := #[.int .i64 ((rd_T70 l1 x12_1).f0), .int .i64 0, .int .i64 0, .int .i64 0, .int .i64 0]) ?_ 1 _ rfl; (with_reducible repeat (first | refine blk_drewN ?_ _ | refine blk_drew ?_ | refine blk_alloc ?_ _)); refine blk_put (cs := #[.int .i64 0, .int .i64 0, .int .i64 0, .int .i64 0, .int .i64 0]) ?_ 0 _ rfl; (with_reducible repeat (first | refine blk_drewN ?_ _ | refine blk_drew ?_ | refine blk_alloc ?_ _)); exact BK239.out) hb); have n1_ := Aside0.mk (below_step (upB1 HB.out GE239.out) hb); clear BK239; clear HB; have BK239 := n0_; have HB := n1_; clear n0_ n1_; (try clear hb); have hcz13_0 := ci BK239.out 0 ((rd_T70 l1 x12_1).f0) rfl; have hcz13_1 := ci BK239.out 1 ((rd_T70 l1 x12_1).f1) rfl; have hcz13_2 := ci BK239.out 2 ((rd_T70 l1 x12_1).f2) rfl; have hcz13_3 := ci BK239.out 3 ((rd_T70 l1 x12_1).f3) rfl; have hcz13_4 := ci BK239.out 4 ((rd_T70 l1 x12_1).f4) rfl; have hfz13_0 := fun j_ : Nat => blk_frozen BK239.out j_) | ((with_reducible refine gate_callee (f := 68) rfl ?_); refine goesL_ (some 21) rfl rfl Try.func68 (by kernel_rfl) rfl #[.slice A0 l0.length c0, .func (.func 101) #[] #[.pointer (some ⟨gb239, 0, none⟩)]] rfl argsB ?_; (with_reducible refine (impl_xMatched.calls _ _ l0 t240 t241 t242 t243 t244 true _ ?side1 ?side2 A8.out).mono ?_); (case side1 => exact Kd.C_below HR0.out (upB1 HB.out GE239.out)); (case side2 => exact HC0.out); rintro e w14 ⟨rfl, hb⟩; refine ⟨_, rfl, ?_⟩; have n0_ := Aside0.mk (blk_below (g := gb239) (o := .cells #[.int .i64 t240, .int .i64 t241, .int .i64 t242, .int .i64 t243, .int .i64 t244] 70 (0, 0)) (by (with_reducible repeat (first | refine blk_drewN ?_ _ | refine blk_drew ?_ | refine blk_alloc ?_ _)); refine blk_put (cs := #[.int .i64 t240, .int .i64 t241, .int .i64 t242, .int .i64 t243, .int .i64 ((rd_T70 l1 x12_1).f4)]) ?_ 4 _ rfl; (with_reducible repeat (first | refine blk_drewN ?_ _ | refine blk_drew ?_ | refine blk_alloc ?_ _)); refine blk_put (cs := #[.int .i64 t240, .int .i64 t241, .int .i64 t242, .int .i64 ((rd_T70 l1 x12_1).f3), .int .i64 ((rd_T70 l1 x12_1).f4)]) ?_ 3 _ rfl; (with_reducible repeat (first | refine blk_drewN ?_ _ | refine blk_drew ?_ | refine blk_alloc ?_ _)); refine blk_put (cs := #[.int .i64 t240, .int .i64 t241, .int .i64 ((rd_T70 l1 x12_1).f2), .int .i64 ((rd_T70 l1 x12_1).f3), .int .i64 ((rd_T70 l1 x12_1).f4)]) ?_ 2 _ rfl; (with_reducible repeat (first | refine blk_drewN ?_ _ | refine blk_drew ?_ | refine blk_alloc ?_ _)); refine blk_put (cs := #[.int .i64 t240, .int .i64 ((rd_T70 l1 x12_1).f1), .int .i64 ((rd_T70 l1 x12_1).f2), .int .i64 ((rd_T70 l1 x12_1).f3), .int .i64 ((rd_T70 l1 x12_1).f4)]) ?_ 1 _ rfl; (with_reducible repeat (first | refine blk_drewN ?_ _ | refine blk_drew ?_ | refine blk_alloc ?_ _)); refine blk_put (cs := #[.int .i64 ((rd_T70 l1 x12_1).f0), .int .i64 ((rd_T70 l1 x12_1).f1), .int .i64 ((rd_T70 l1 x12_1).f2), .int .i64 ((rd_T70 l1 x12_1).f3), .int .i64 ((rd_T70 l1 x12_1).f4)]) ?_ 0 _ rfl; (with_reducible repeat (first | refine blk_drewN ?_ _ | refine blk_drew ?_ | refine blk_alloc ?_ _)); exact BK239.out) hb); have n1_ := Aside0.mk (below_step (upB1 HB.out GE239.out) hb); clear BK239; clear HB; have BK239 := n0_; have HB := n1_; clear n0_ n1_; (try clear hb)))
              go_roundg k1
              case measure => have := HK1.out; omega
              case rel => exact ⟨(wrap64 (x7_1 + 1)), (wrap64 (x12_1 + 1)), (by first | rfl | (simp; done) | (simp [*]; done)), (by first | rfl | (simp; done) | (simp [*]; done)), H', ⟨by have := HK1.out; omega⟩, ⟨(upB1 HB.out GE239.out)⟩⟩
            · replace c9 := Bool.eq_false_iff.mpr c9
              subst c9
              have H1 : (impl_matchScore.l0 k1 l0 l2 x7_1 l1 (l1.length : Int) (wrap64 (x12_1 + 1))) = some r := by rw [if_neg (show ¬ (false = true) by decide)] at H; exact H
              clear H
              have H := H1
              clear H1
              have H' := Aside0.mk H
              clear H
              have p238 : 0 ≤ (x12_1 : Int) := of_decide_eq_true asmB
              have q238 : x12_1 < (l1.length : Int) := of_decide_eq_true asmB
              obtain ⟨ad238, e238, hx238_0, hx238_1, hx238_2, hx238_3, hx238_4⟩ := at_T70 HR1.out x12_1 p238 q238
              cases e238
              replace hx238_0 := bx HB.out hx238_0
              replace hx238_1 := bx HB.out hx238_1
              replace hx238_2 := bx HB.out hx238_2
              replace hx238_3 := bx HB.out hx238_3
              replace hx238_4 := bx HB.out hx238_4
              replace p238 := eq_true p238
              replace q238 := eq_true q238
              go_wp2_with (first | ((with_reducible refine gate_dst (N := 9) rfl ?_); refine box_event ?hg (N := 9) ?hd (cs := #[.int .i64 0, .int .i64 0, .int .i64 0, .int .i64 0, .int .i64 0]) (t := 70) ?hr ?_; (case hd => rfl); (case hg => rfl); (case hr => first | (go_simp; done) | (go_simp; rfl)); intro gb239 hg w15 hbox hb; have n0_ := Aside0.mk (below_step (upB HB.out) hb); have n1_ := Aside0.mk (hbox); have n2_ := Aside0.mk ((by rw [hg]; exact (below_size (upB HB.out)) : w.heap.size ≤ gb239)); have n3_ := Aside0.mk ((by rw [hg]; exact (below_size (upB HB.out)) : w.heap.size ≤ gb239)); clear HB; have HB := n0_; have BK239 := n1_; have GW239 := n2_; have GE239 := n3_; clear n0_ n1_ n2_ n3_; clear hb hbox hg; have hcz16_0 := ci BK239.out 0 0 rfl; have hcz16_1 := ci BK239.out 1 0 rfl; have hcz16_2 := ci BK239.out 2 0 rfl; have hcz16_3 := ci BK239.out 3 0 rfl; have hcz16_4 := ci BK239.out 4 0 rfl; have hfz16_0 := fun j_ : Nat => blk_frozen BK239.out j_) | ((with_reducible refine gate_callee (f := 72) rfl ?_); refine goesL_ (some 18) rfl rfl Try.func72 (by kernel_rfl) rfl #[.agg #[.int .i64 ((rd_T70 l1 x12_1).f0), .int .i64 ((rd_T70 l1 x12_1).f1), .int .i64 ((rd_T70 l1 x12_1).f2), .int .i64 ((rd_T70 l1 x12_1).f3), .int .i64 ((rd_T70 l1 x12_1).f4)], .slice A2 l2.length c2] rfl argsB ?_; (with_reducible refine (impl_renamed.calls ((rd_T70 l1 x12_1).f0) ((rd_T70 l1 x12_1).f1) ((rd_T70 l1 x12_1).f2) ((rd_T70 l1 x12_1).f3) ((rd_T70 l1 x12_1).f4) _ _ l2 t240 t241 t242 t243 t244 _ ?side1 ?side2 A7.out).mono ?_); (case side1 => exact Kd.C_below HR2.out (upB1 HB.out GE239.out)); (case side2 => exact HC2.out); rintro e w17 ⟨rfl, hb⟩; refine ⟨_, rfl, ?_⟩; have n0_ := Aside0.mk (blk_below (g := gb239) (o := .cells #[.int .i64 ((rd_T70 l1 x12_1).f0), .int .i64 ((rd_T70 l1 x12_1).f1), .int .i64 ((rd_T70 l1 x12_1).f2), .int .i64 ((rd_T70 l1 x12_1).f3), .int .i64 ((rd_T70 l1 x12_1).f4)] 70 (0, 0)) (by (with_reducible repeat (first | refine blk_drewN ?_ _ | refine blk_drew ?_ | refine blk_alloc ?_ _)); refine blk_put (cs := #[.int .i64 ((rd_T70 l1 x12_1).f0), .int .i64 ((rd_T70 l1 x12_1).f1), .int .i64 ((rd_T70 l1 x12_1).f2), .int .i64 ((rd_T70 l1 x12_1).f3), .int .i64 0]) ?_ 4 _ rfl; (with_reducible repeat (first | refine blk_drewN ?_ _ | refine blk_drew ?_ | refine blk_alloc ?_ _)); refine blk_put (cs := #[.int .i64 ((rd_T70 l1 x12_1).f0), .int .i64 ((rd_T70 l1 x12_1).f1), .int .i64 ((rd_T70 l1 x12_1).f2), .int .i64 0, .int .i64 0]) ?_ 3 _ rfl; (with_reducible repeat (first | refine blk_drewN ?_ _ | refine blk_drew ?_ | refine blk_alloc ?_ _)); refine blk_put (cs := #[.int .i64 ((rd_T70 l1 x12_1).f0), .int .i64 ((rd_T70 l1 x12_1).f1), .int .i64 0, .int .i64 0, .int .i64 0]) ?_ 2 _ rfl; (with_reducible repeat (first | refine blk_drewN ?_ _ | refine blk_drew ?_ | refine blk_alloc ?_ _)); refine blk_put (cs := #[.int .i64 ((rd_T70 l1 x12_1).f0), .int .i64 0, .int .i64 0, .int .i64 0, .int .i64 0]) ?_ 1 _ rfl; (with_reducible repeat (first | refine blk_drewN ?_ _ | refine blk_drew ?_ | refine blk_alloc ?_ _)); refine blk_put (cs := #[.int .i64 0, .int .i64 0, .int .i64 0, .int .i64 0, .int .i64 0]) ?_ 0 _ rfl; (with_reducible repeat (first | refine blk_drewN ?_ _ | refine blk_drew ?_ | refine blk_alloc ?_ _)); exact BK239.out) hb); have n1_ := Aside0.mk (below_step (upB1 HB.out GE239.out) hb); clear BK239; clear HB; have BK239 := n0_; have HB := n1_; clear n0_ n1_; (try clear hb); have hcz18_0 := ci BK239.out 0 ((rd_T70 l1 x12_1).f0) rfl; have hcz18_1 := ci BK239.out 1 ((rd_T70 l1 x12_1).f1) rfl; have hcz18_2 := ci BK239.out 2 ((rd_T70 l1 x12_1).f2) rfl; have hcz18_3 := ci BK239.out 3 ((rd_T70 l1 x12_1).f3) rfl; have hcz18_4 := ci BK239.out 4 ((rd_T70 l1 x12_1).f4) rfl; have hfz18_0 := fun j_ : Nat => blk_frozen BK239.out j_) | ((with_reducible refine gate_callee (f := 68) rfl ?_); refine goesL_ (some 21) rfl rfl Try.func68 (by kernel_rfl) rfl #[.slice A0 l0.length c0, .func (.func 101) #[] #[.pointer (some ⟨gb239, 0, none⟩)]] rfl argsB ?_; (with_reducible refine (impl_xMatched.calls _ _ l0 t240 t241 t242 t243 t244 false _ ?side1 ?side2 A8.out).mono ?_); (case side1 => exact Kd.C_below HR0.out (upB1 HB.out GE239.out)); (case side2 => exact HC0.out); rintro e w19 ⟨rfl, hb⟩; refine ⟨_, rfl, ?_⟩; have n0_ := Aside0.mk (blk_below (g := gb239) (o := .cells #[.int .i64 t240, .int .i64 t241, .int .i64 t242, .int .i64 t243, .int .i64 t244] 70 (0, 0)) (by (with_reducible repeat (first | refine blk_drewN ?_ _ | refine blk_drew ?_ | refine blk_alloc ?_ _)); refine blk_put (cs := #[.int .i64 t240, .int .i64 t241, .int .i64 t242, .int .i64 t243, .int .i64 ((rd_T70 l1 x12_1).f4)]) ?_ 4 _ rfl; (with_reducible repeat (first | refine blk_drewN ?_ _ | refine blk_drew ?_ | refine blk_alloc ?_ _)); refine blk_put (cs := #[.int .i64 t240, .int .i64 t241, .int .i64 t242, .int .i64 ((rd_T70 l1 x12_1).f3), .int .i64 ((rd_T70 l1 x12_1).f4)]) ?_ 3 _ rfl; (with_reducible repeat (first | refine blk_drewN ?_ _ | refine blk_drew ?_ | refine blk_alloc ?_ _)); refine blk_put (cs := #[.int .i64 t240, .int .i64 t241, .int .i64 ((rd_T70 l1 x12_1).f2), .int .i64 ((rd_T70 l1 x12_1).f3), .int .i64 ((rd_T70 l1 x12_1).f4)]) ?_ 2 _ rfl; (with_reducible repeat (first | refine blk_drewN ?_ _ | refine blk_drew ?_ | refine blk_alloc ?_ _)); refine blk_put (cs := #[.int .i64 t240, .int .i64 ((rd_T70 l1 x12_1).f1), .int .i64 ((rd_T70 l1 x12_1).f2), .int .i64 ((rd_T70 l1 x12_1).f3), .int .i64 ((rd_T70 l1 x12_1).f4)]) ?_ 1 _ rfl; (with_reducible repeat (first | refine blk_drewN ?_ _ | refine blk_drew ?_ | refine blk_alloc ?_ _)); refine blk_put (cs := #[.int .i64 ((rd_T70 l1 x12_1).f0), .int .i64 ((rd_T70 l1 x12_1).f1), .int .i64 ((rd_T70 l1 x12_1).f2), .int .i64 ((rd_T70 l1 x12_1).f3), .int .i64 ((rd_T70 l1 x12_1).f4)]) ?_ 0 _ rfl; (with_reducible repeat (first | refine blk_drewN ?_ _ | refine blk_drew ?_ | refine blk_alloc ?_ _)); exact BK239.out) hb); have n1_ := Aside0.mk (below_step (upB1 HB.out GE239.out) hb); clear BK239; clear HB; have BK239 := n0_; have HB := n1_; clear n0_ n1_; (try clear hb)))
              go_roundg k1
              case measure => have := HK1.out; omega
              case rel => exact ⟨(x7_1), (wrap64 (x12_1 + 1)), (by first | rfl | (simp; done) | (simp [*]; done)), (by first | rfl | (simp; done) | (simp [*]; done)), H', ⟨by have := HK1.out; omega⟩, ⟨(upB1 HB.out GE239.out)⟩⟩
          · rw [if_neg c6] at H
            exact absurd H (by simp)
        · rw [if_neg c5] at H
          exact absurd H (by simp)
      · rw [if_neg c4] at H
        have c4b0 : decide (x12_1 < (l1.length : Int)) = false := decide_eq_false c4
        clear c4
        obtain rfl := Option.some.inj H
        go_wp2
        go_ret
        exact ⟨by first | rfl | (simp [errW_none, errW_some] <;> rfl) | (simp [*, errW_none, errW_some] <;> rfl), (upB HB.out)⟩

/-! ### impl_MatchScore: function 41 -/
def impl_MatchScore.f (k : Nat) (l0 : List (S70)) (l1 : List (S70)) (l2 : List Int) : Option (Int × Bool) := (impl_areLegs.f k l0).bind fun t246 => (if t246 = true then ((impl_areLegs.f k l1).bind fun t247 => (if t247 = true then ((impl_IsRenaming.f k l2).bind fun t248 => (if t248 = true then ((impl_matchScore.f k l0 l1 l2).bind fun t249 => (some (t249, true))) else (some (0, false)))) else (some (0, false)))) else (some (0, false)))
theorem impl_MatchScore.mono : ∀ a0 a1 a2 k, LeO (impl_MatchScore.f k a0 a1 a2) (impl_MatchScore.f (k + 1) a0 a1 a2) := by
 intro a0 a1 a2 k
 unfold impl_MatchScore.f
 repeat' with_reducible first | apply impl_IsRenaming.mono | apply impl_areLegs.mono | apply impl_matchScore.mono | exact LeO.refl _ | exact LeO.none _ | refine LeO.ite ?_ ?_ | refine LeO.bind ?_ (fun _ => ?_)
set_option maxHeartbeats 8000000 in
set_option maxRecDepth 100000 in
theorem impl_MatchScore.calls (k : Nat) (A0 : Option Addr) (c0 : Nat) (l0 : List (S70)) (A1 : Option Addr) (c1 : Nat) (l1 : List (S70)) (A2 : Option Addr) (c2 : Nat) (l2 : List Int) (r1 : Int) (r2 : Bool) (w : World) (hr0 : Kd.C k70 w A0 l0.length l0) (hc0 : l0.length ≤ c0) (hr1 : Kd.C k70 w A1 l1.length l1) (hc1 : l1.length ≤ c1) (hr2 : Kd.C (Kd.int .i64) w A2 l2.length l2) (hc2 : l2.length ≤ c2) (h : impl_MatchScore.f k l0 l1 l2 = some (r1, r2)) :
  Calls Try.prog 41 #[.slice A0 l0.length c0, .slice A1 l1.length c1, .slice A2 l2.length c2] w fun e w' => e = .returned (.tuple #[.int .i64 r1, .bool r2]) ∧ Below w.heap.size w w' := by
 have HR0 := Aside0.mk hr0
 have HC0 := Aside0.mk hc0
 clear hr0 hc0
 have HR1 := Aside0.mk hr1
 have HC1 := Aside0.mk hc1
 clear hr1 hc1
 have HR2 := Aside0.mk hr2
 have HC2 := Aside0.mk hc2
 clear hr2 hc2
 have HB := Aside0.mk (Below.refl w.heap.size w)
 have H := h
 clear h
 unfold impl_MatchScore.f at H
 replace H := bA H
 obtain ⟨t246, A4, H⟩ := H
 rcases Bool.eq_false_or_eq_true t246 with rfl | rfl
 ·replace H := iT rfl H
  replace H := bA H
  obtain ⟨t247, A6, H⟩ := H
  rcases Bool.eq_false_or_eq_true t247 with rfl | rfl
  ·replace H := iT rfl H
   replace H := bA H
   obtain ⟨t248, A8, H⟩ := H
   rcases Bool.eq_false_or_eq_true t248 with rfl | rfl
   ·replace H := iT rfl H
    replace H := bA H
    obtain ⟨t249, A10, H⟩ := H
    simp only [Option.some.injEq, Prod.mk.injEq] at H
    obtain ⟨rfl, rfl⟩ := H
    go_enter Try.func41, Try.ntmps41
    go_wp2_with (first | ((with_reducible refine gC 62 ?_); refine lA (some 9) Try.func62 (impl_areLegs.calls k _ _ l0 true _ ?side1 ?side2 A4.out) ?_; (case side1 => repeat (first | exact HR0.out | (with_reducible refine Kd.C_alloc ?_ _) | (with_reducible refine Kd.C_drewN ?_ _) | (with_reducible refine Kd.C_drew ?_))); (case side2 => exact HC0.out); intro w11 hb; replace HB := uB HB hb; (try clear hb)) | (go_at_call 62; (with_reducible refine (impl_areLegs.calls k _ _ l1 true _ ?side1 ?side2 A6.out).mono ?_); (case side1 => repeat (first | exact (Kd.C_below HR1.out HB.out) | (with_reducible refine Kd.C_alloc ?_ _) | (with_reducible refine Kd.C_drewN ?_ _) | (with_reducible refine Kd.C_drew ?_))); (case side2 => exact HC1.out); rintro e w12 ⟨rfl, hb⟩; replace HB := uB HB hb; (try clear hb)) | (go_at_call 16; (with_reducible refine (impl_IsRenaming.calls k _ _ l2 true _ ?side1 ?side2 A8.out).mono ?_); (case side1 => repeat (first | exact (Kd.C_below HR2.out HB.out) | (with_reducible refine Kd.C_alloc ?_ _) | (with_reducible refine Kd.C_drewN ?_ _) | (with_reducible refine Kd.C_drew ?_))); (case side2 => exact HC2.out); rintro e w' ⟨rfl, ⟨nd, rfl⟩⟩) | ((with_reducible refine gC 77 ?_); refine lA (some 24) Try.func77 (impl_matchScore.calls k _ _ l0 _ _ l1 _ _ l2 t249 _ ?side1 ?side2 ?side3 ?side4 ?side5 ?side6 A10.out) ?_; (case side1 => repeat (first | exact (Kd.C_below HR0.out (bW HB)) | (with_reducible refine Kd.C_alloc ?_ _) | (with_reducible refine Kd.C_drewN ?_ _) | (with_reducible refine Kd.C_drew ?_))); (case side2 => exact HC0.out); (case side3 => repeat (first | exact (Kd.C_below HR1.out (bW HB)) | (with_reducible refine Kd.C_alloc ?_ _) | (with_reducible refine Kd.C_drewN ?_ _) | (with_reducible refine Kd.C_drew ?_))); (case side4 => exact HC1.out); (case side5 => repeat (first | exact (Kd.C_below HR2.out (bW HB)) | (with_reducible refine Kd.C_alloc ?_ _) | (with_reducible refine Kd.C_drewN ?_ _) | (with_reducible refine Kd.C_drew ?_))); (case side6 => exact HC2.out); intro w13 hb; replace HB := uB HB hb; (try clear hb)))
    go_ret2
    exact ⟨eB, (bW HB)⟩
   ·replace H := iF (by decide) H
    simp only [Option.some.injEq, Prod.mk.injEq] at H
    obtain ⟨rfl, rfl⟩ := H
    go_enter Try.func41, Try.ntmps41
    go_wp2_with (first | ((with_reducible refine gC 62 ?_); refine lA (some 9) Try.func62 (impl_areLegs.calls k _ _ l0 true _ ?side1 ?side2 A4.out) ?_; (case side1 => repeat (first | exact HR0.out | (with_reducible refine Kd.C_alloc ?_ _) | (with_reducible refine Kd.C_drewN ?_ _) | (with_reducible refine Kd.C_drew ?_))); (case side2 => exact HC0.out); intro w14 hb; replace HB := uB HB hb; (try clear hb)) | (go_at_call 62; (with_reducible refine (impl_areLegs.calls k _ _ l1 true _ ?side1 ?side2 A6.out).mono ?_); (case side1 => repeat (first | exact (Kd.C_below HR1.out HB.out) | (with_reducible refine Kd.C_alloc ?_ _) | (with_reducible refine Kd.C_drewN ?_ _) | (with_reducible refine Kd.C_drew ?_))); (case side2 => exact HC1.out); rintro e w15 ⟨rfl, hb⟩; replace HB := uB HB hb; (try clear hb)) | (go_at_call 16; (with_reducible refine (impl_IsRenaming.calls k _ _ l2 false _ ?side1 ?side2 A8.out).mono ?_); (case side1 => repeat (first | exact (Kd.C_below HR2.out HB.out) | (with_reducible refine Kd.C_alloc ?_ _) | (with_reducible refine Kd.C_drewN ?_ _) | (with_reducible refine Kd.C_drew ?_))); (case side2 => exact HC2.out); rintro e w' ⟨rfl, ⟨nd, rfl⟩⟩))
    go_ret2
    exact ⟨eB, (bW HB)⟩
  ·replace H := iF (by decide) H
   simp only [Option.some.injEq, Prod.mk.injEq] at H
   obtain ⟨rfl, rfl⟩ := H
   go_enter Try.func41, Try.ntmps41
   go_wp2_with (first | ((with_reducible refine gC 62 ?_); refine lA (some 9) Try.func62 (impl_areLegs.calls k _ _ l0 true _ ?side1 ?side2 A4.out) ?_; (case side1 => repeat (first | exact HR0.out | (with_reducible refine Kd.C_alloc ?_ _) | (with_reducible refine Kd.C_drewN ?_ _) | (with_reducible refine Kd.C_drew ?_))); (case side2 => exact HC0.out); intro w16 hb; replace HB := uB HB hb; (try clear hb)) | (go_at_call 62; (with_reducible refine (impl_areLegs.calls k _ _ l1 false _ ?side1 ?side2 A6.out).mono ?_); (case side1 => repeat (first | exact (Kd.C_below HR1.out HB.out) | (with_reducible refine Kd.C_alloc ?_ _) | (with_reducible refine Kd.C_drewN ?_ _) | (with_reducible refine Kd.C_drew ?_))); (case side2 => exact HC1.out); rintro e w17 ⟨rfl, hb⟩; replace HB := uB HB hb; (try clear hb)))
   go_ret2
   exact ⟨eB, (bW HB)⟩
 ·replace H := iF (by decide) H
  simp only [Option.some.injEq, Prod.mk.injEq] at H
  obtain ⟨rfl, rfl⟩ := H
  go_enter Try.func41, Try.ntmps41
  go_wp2_with (first | ((with_reducible refine gC 62 ?_); refine lA (some 9) Try.func62 (impl_areLegs.calls k _ _ l0 false _ ?side1 ?side2 A4.out) ?_; (case side1 => repeat (first | exact HR0.out | (with_reducible refine Kd.C_alloc ?_ _) | (with_reducible refine Kd.C_drewN ?_ _) | (with_reducible refine Kd.C_drew ?_))); (case side2 => exact HC0.out); intro w18 hb; replace HB := uB HB hb; (try clear hb)))
  go_ret2
  exact ⟨eB, (bW HB)⟩

/-! ### spec_l1Own: function 78 -/
def spec_l1Own.f (l0 : List Int) : Option (List Int) := (some (([] : List Int) : List Int)).bind fun y250 => (if y250.length + l0.length < 17592186044416 then (some (y250 ++ l0)) else (none))
set_option maxHeartbeats 8000000 in
set_option maxRecDepth 100000 in
theorem spec_l1Own.calls (A0 : Option Addr) (c0 : Nat) (l0 : List Int) (r : List Int) (w : World) (hr0 : Kd.C (Kd.int .i64) w A0 l0.length l0) (hc0 : l0.length ≤ c0) (h : spec_l1Own.f l0 = some r) :
  Calls Try.prog 78 #[.slice A0 l0.length c0] w fun e w' => ∃ v0_ : Value, e = .returned (v0_) ∧ Kd.R (Kd.int .i64) 3 w' w.heap.size (fun _ => True) v0_ r ∧ Below w.heap.size w w' := by
 have HR0 := Aside0.mk hr0
 have HC0 := Aside0.mk hc0
 clear hr0 hc0
 have HB := Aside0.mk (Below.refl w.heap.size w)
 have H := h
 clear h
 unfold spec_l1Own.f at H
 obtain ⟨y250, hy250⟩ : ∃ y_ : List Int, y_ = (([] : List Int)) := ⟨_, rfl⟩
 replace H : (if y250.length + l0.length < 17592186044416 then (some (y250 ++ l0)) else (none)) = some r := by first | (rw [hy250]; with_reducible exact H) | (have H2_ := (Option.bind_some _ _).symm.trans H; rw [hy250]; with_reducible exact H2_) | (have H2_ := (Option.bind_some _ _).symm.trans H; with_reducible exact H2_) | with_reducible exact H | (rw [hy250]; exact H) | exact H
 have Ny250 := Aside0.mk hy250
 clear hy250
 by_cases c2 : y250.length + l0.length < 17592186044416
 ·rw [if_pos c2] at H
  have LMc2 := Aside0.mk c2
  clear c2
  obtain ⟨y253, hy253⟩ : ∃ y_ : List Int, y_ = (y250 ++ l0) := ⟨_, rfl⟩
  replace H : (some y253) = some r := by first | (rw [hy253]; with_reducible exact H) | (have H2_ := (Option.bind_some _ _).symm.trans H; rw [hy253]; with_reducible exact H2_) | (have H2_ := (Option.bind_some _ _).symm.trans H; with_reducible exact H2_) | with_reducible exact H | (rw [hy253]; exact H) | exact H
  have Ny253 := Aside0.mk hy253
  clear hy253
  obtain rfl := Option.some.inj H
  go_enter Try.func78, Try.ntmps78
  go_wp2_with (first | ((with_reducible refine gate_dst (N := 3) rfl ?_); refine Kd.R_lit (Kd.int .i64) _ 3 ?hg (N := 3) ?hd (xs := ([] : List Int)) (inner := []) (ok := fun _ => True) (okp := fun _ => True) ?hr ?hp (fun _ hk => hk) trivial (Below.refl _ _) (Nat.le_refl _) (by simp) ?_; (case hd => rfl); (case hg => rfl); (case hr => first | (go_simp; done) | (go_simp; rfl)); (case hp => exact (Reps.none _ _)); intro v251 w3 ho4 hb hg_ hnew_; clear hg_ hnew_; (first | rw [← Ny250.out] at ho4 | (simp only [Int.reduceToNat] at ho4; rw [← Ny250.out] at ho4)); have HO252 := Aside0.mk (Kd.R_lower ho4 (below_size (bW HB))); replace HB := uB HB hb; clear hb ho4) | ((with_reducible refine gate_builtin (b := .append) (xs := #[.tmp 3, .tmp 4]) rfl ?_); at_builtin; refine Kd.R_append_rows (Kd.int .i64) (w0 := w) w.heap.size rfl (.tmp 3) (.tmp 4) 22 3 (.int .i64 0) 8 rfl Try.underlying22 info3 rfl (by decide) (by omega) v251 y250 l0 _ _ _ (fun _ => True) (fun _ => False) rfl rfl ?aO ?aR (fun _ _ h => h) (fun _ h => h.elim) ?aF ?aB ?aS ?aL ?_; (case aR => repeat (first | exact (Kd.C_below HR0.out HB.out) | (with_reducible refine Kd.C_alloc ?_ _) | (with_reducible refine Kd.C_drewN ?_ _) | (with_reducible refine Kd.C_drew ?_))); (case aB => exact (bW HB)); (case aF => exact (fun _ _ => trivial)); (case aO => exact (upR HO252.out)); (case aS => exact (below_size (bW HB))); (case aL => have := LMc2.out; omega); intro v254 w5 ho hb hg hat; rw [← Ny253.out] at ho; have HO255 := Aside0.mk (ho); replace HB := Aside0.mk (hb); clear HO252; clear ho hb hg hat))
  go_ret
  exact ⟨_, eB, upR HO255.out, (bW HB)⟩
 ·rw [if_neg c2] at H
  exact absurd H (by simp)

end Go.Proofs.Ytfaojmabalplfaa.QFnRenamings
