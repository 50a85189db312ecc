/- Contracts of Go functions that FnSteps reaches: the call computes what the plain function says. No condition. -/
import Derived.Test.YtmfidodcpbochaaGreatQFnStepsx0
import Derived.Test.YtmfidodcpbochaaGreatQFnStepsx1
import Derived.Test.YtmfidodcpbochaaGreatQFnStepsx2
namespace Go.Proofs.YtmfidodcpbochaaGreat.QFnSteps
open Go.RowKit Go.Proofs.YtmfidodcpbochaaGreatW.PrintWords Go.Proofs.YtmfidodcpbochaaGreatW.PrintLast Go.Proofs.YtmfidodcpbochaaGreatW.PrintMore
attribute [local go_sem] max2_int min2_int max_two min_two max_three min_three max_four min_four   -- for this text's walks alone
set_option linter.unusedVariables false
set_option linter.unusedSimpArgs false

/-! ### spec_BearingTo: function 87 -/
mutual
def spec_BearingTo.j0 : Nat → Int → Int → Bool → Option (Int × Bool)
 | 0, _, _, _ => none
 | k + 1, x0, x1, x23 => if x23 = true then (some (0, false)) else (spec_BearingTo.l0 k x0 x1 0 1)
def spec_BearingTo.l0 : Nat → Int → Int → Int → Int → Option (Int × Bool)
 | 0, _, _, _, _ => none
 | k + 1, x0, x1, x6, x7 => if x7 < 360 then ((spec_l2Sine.f x7).bind fun t156 => ((spec_l2Cosine.f x7).bind fun t157 => ((spec_l2Sine.f x6).bind fun t158 => ((spec_l2Cosine.f x6).bind fun t159 => (if (wrap64 ((wrap64 (x0 * t156)) + (wrap64 (x1 * t157)))) > (wrap64 ((wrap64 (x0 * t158)) + (wrap64 (x1 * t159)))) then (spec_BearingTo.l0 k x0 x1 x7 (wrap64 (x7 + 1))) else (spec_BearingTo.l0 k x0 x1 x6 (wrap64 (x7 + 1)))))))) else (some (x6, true))
end
def spec_BearingTo.f (k : Nat) (a0 a1 : Int) : Option (Int × Bool) := (spec_l2Long.f a0).bind fun t154 => (if t154 = true then ((spec_l2Long.f a1).bind fun t155 => (if t155 = true then (if a0 = 0 then (spec_BearingTo.j0 k a0 a1 (a1 == 0)) else (spec_BearingTo.j0 k a0 a1 false)) else (spec_BearingTo.j0 k a0 a1 true))) else (spec_BearingTo.j0 k a0 a1 true))
theorem spec_BearingTo.mono_l : ∀ k, (∀ y0 y1 y2, LeO (spec_BearingTo.j0 k y0 y1 y2) (spec_BearingTo.j0 (k + 1) y0 y1 y2)) ∧ (∀ y0 y1 y2 y3, LeO (spec_BearingTo.l0 k y0 y1 y2 y3) (spec_BearingTo.l0 (k + 1) y0 y1 y2 y3))
 | 0 => ⟨fun _ _ _ r h => by simp [spec_BearingTo.j0] at h, fun _ _ _ _ r h => by simp [spec_BearingTo.l0] at h⟩
 | k + 1 => by
  obtain ⟨ih0, ih1⟩ := spec_BearingTo.mono_l k
  refine ⟨?_, ?_⟩
  ·intro y0 y1 y2
   unfold spec_BearingTo.j0
   repeat' with_reducible first | apply ih0 | apply ih1 | exact LeO.refl _ | exact LeO.none _ | refine LeO.ite ?_ ?_ | refine LeO.bind ?_ (fun _ => ?_)
  ·intro y0 y1 y2 y3
   unfold spec_BearingTo.l0
   repeat' with_reducible first | apply ih0 | apply ih1 | exact LeO.refl _ | exact LeO.none _ | refine LeO.ite ?_ ?_ | refine LeO.bind ?_ (fun _ => ?_)
theorem spec_BearingTo.mono : ∀ a0 a1 k, LeO (spec_BearingTo.f k a0 a1) (spec_BearingTo.f (k + 1) a0 a1) := by
 intro a0 a1 k
 obtain ⟨ih0, ih1⟩ := spec_BearingTo.mono_l k
 unfold spec_BearingTo.f
 repeat' with_reducible first | apply ih0 | apply ih1 | exact LeO.refl _ | exact LeO.none _ | refine LeO.ite ?_ ?_ | refine LeO.bind ?_ (fun _ => ?_)
set_option maxHeartbeats 8000000 in
set_option maxRecDepth 100000 in
theorem spec_BearingTo.calls (k : Nat) (a0 a1 r1 : Int) (r2 : Bool) (w : World) (h : spec_BearingTo.f k a0 a1 = some (r1, r2)) :
 Calls Tryz.prog 87 #[.int .i64 a0, .int .i64 a1] w fun e w' => e = .returned (.tuple #[.int .i64 r1, .bool r2]) ∧ Below w.heap.size w w' := by
 have HB := Aside0.mk (Below.refl w.heap.size w)
 have H := h
 clear h
 unfold spec_BearingTo.f at H
 have HC3 := Aside0.mk H
 clear H
 go_enter Tryz.func87, Tryz.ntmps87
 go_upto_region 1 with (fail)
 go_cut [23] (fun v23 wc => ∃ (kq : Nat) (x23_2 : Bool), v23 = .bool x23_2 ∧ Aside0 (spec_BearingTo.j0 kq a0 a1 x23_2 = some (r1, r2)) ∧ Aside0 (kq ≤ k) ∧ Aside0 (Below w.heap.size w wc))
 case first =>
  have H := HC3.out
  clear HC3
  replace H := bA H
  obtain ⟨t154, A4, H⟩ := H
  rcases Bool.eq_false_or_eq_true t154 with rfl | rfl
  ·replace H := iT rfl H
   replace H := bA H
   obtain ⟨t155, A6, H⟩ := H
   rcases Bool.eq_false_or_eq_true t155 with rfl | rfl
   ·replace H := iT rfl H
    replace H := ifI H
    rcases H with ⟨H, -, c8b0, c8b1⟩ | ⟨H, c8, c8b0, c8b1⟩
    ·(first | rw [c8b0] | (simp only [i64_w, i32_w]; rw [c8b0]) | skip)
     have H' := Aside0.mk H
     clear H
     go_wp2_with (first | ((with_reducible refine gC 103 ?_); refine lA (some 9) Tryz.func103 (spec_l2Long.calls a0 true _ A4.out) ?_; rintro _ ⟨nd, rfl⟩) | (go_at_call 103; (with_reducible refine (spec_l2Long.calls a1 true _ A6.out).mono ?_); rintro e w' ⟨rfl, ⟨nd, rfl⟩⟩))
     go_meet
     case rel => exact ⟨_, ((a1 == 0)), rB, H', leB, (aB HB)⟩
    ·(first | rw [c8b0] | (simp only [i64_w, i32_w]; rw [c8b0]) | skip)
     have H' := Aside0.mk H
     clear H
     go_wp2_with (first | ((with_reducible refine gC 103 ?_); refine lA (some 9) Tryz.func103 (spec_l2Long.calls a0 true _ A4.out) ?_; rintro _ ⟨nd, rfl⟩) | (go_at_call 103; (with_reducible refine (spec_l2Long.calls a1 true _ A6.out).mono ?_); rintro e w' ⟨rfl, ⟨nd, rfl⟩⟩))
     go_meet
     case rel => exact ⟨_, (false), rB, H', leB, (aB HB)⟩
   ·replace H := iF (by decide) H
    have H' := Aside0.mk H
    clear H
    go_wp2_with (first | ((with_reducible refine gC 103 ?_); refine lA (some 9) Tryz.func103 (spec_l2Long.calls a0 true _ A4.out) ?_; rintro _ ⟨nd, rfl⟩) | (go_at_call 103; (with_reducible refine (spec_l2Long.calls a1 false _ A6.out).mono ?_); rintro e w' ⟨rfl, ⟨nd, rfl⟩⟩))
    go_meet
    case rel => exact ⟨_, (true), rB, H', leB, (aB HB)⟩
  ·replace H := iF (by decide) H
   have H' := Aside0.mk H
   clear H
   go_wp2_with (first | ((with_reducible refine gC 103 ?_); refine lA (some 9) Tryz.func103 (spec_l2Long.calls a0 false _ A4.out) ?_; rintro _ ⟨nd, rfl⟩))
   go_meet
   case rel => exact ⟨_, (true), rB, H', leB, (aB HB)⟩
 case rest =>
  clear HC3
  obtain ⟨kq, x23_2, rfl, HA, HJ2, HB⟩ := hcut
  cases kq with
  | zero => exact absurd HA.out (by simp [spec_BearingTo.j0])
  | succ kj2 =>
   have H := HA.out
   clear HA
   simp only [spec_BearingTo.j0] at H
   rcases Bool.eq_false_or_eq_true x23_2 with rfl | rfl
   ·replace H := iT rfl H
    simp only [Option.some.injEq, Prod.mk.injEq] at H
    obtain ⟨rfl, rfl⟩ := H
    go_wp2
    go_ret2
    exact ⟨eB, (bW HB)⟩
   ·replace H := iF (by decide) H
    have H' := Aside0.mk H
    clear H
    go_wp2
    go_loopg [6, 7] kj2 (fun kq v6 v7 w' => ∃ (x6_2 x7_2 : Int), v6 = .int .i64 x6_2 ∧ v7 = .int .i64 x7_2 ∧ Aside0 (spec_BearingTo.l0 kq a0 a1 x6_2 x7_2 = some (r1, r2)) ∧ Aside0 (kq ≤ kj2) ∧ Aside0 (Below w.heap.size w w'))
    case atStart => exact ⟨(0), (1), rB, rB, H', ⟨Nat.le_refl _⟩, (aB HB)⟩
    case round =>
     clear H'
     obtain ⟨x6_2, x7_2, rfl, rfl, HA, HK2, HB⟩ := hrel
     cases gk with
     | zero => exact absurd HA.out (by simp [spec_BearingTo.l0])
     | succ k2 =>
      have H := HA.out
      clear HA
      simp only [spec_BearingTo.l0] at H
      replace H := ifD H
      rcases H with ⟨H, -, c10b0⟩ | ⟨H, -, c10b0⟩
      ·replace H := bA H
       obtain ⟨t156, A11, H⟩ := H
       replace H := bA H
       obtain ⟨t157, A12, H⟩ := H
       replace H := bA H
       obtain ⟨t158, A13, H⟩ := H
       replace H := bA H
       obtain ⟨t159, A14, H⟩ := H
       replace H := ifD H
       rcases H with ⟨H, -, c15b0⟩ | ⟨H, -, c15b0⟩
       ·have H' := Aside0.mk H
        clear H
        go_wp2_with (first | ((with_reducible refine gC 102 ?_); refine lA (some 30) Tryz.func102 (spec_l2Sine.calls x7_2 t156 _ A11.out) ?_; intro w16 hb; replace HB := uB HB hb; (try clear hb)) | ((with_reducible refine gC 101 ?_); refine lA (some 34) Tryz.func101 (spec_l2Cosine.calls x7_2 t157 _ A12.out) ?_; intro w17 hb; replace HB := uB HB hb; (try clear hb)) | ((with_reducible refine gC 102 ?_); refine lA (some 39) Tryz.func102 (spec_l2Sine.calls x6_2 t158 _ A13.out) ?_; intro w18 hb; replace HB := uB HB hb; (try clear hb)) | ((with_reducible refine gC 101 ?_); refine lA (some 43) Tryz.func101 (spec_l2Cosine.calls x6_2 t159 _ A14.out) ?_; intro w19 hb; replace HB := uB HB hb; (try clear hb)))
        go_roundg k2
        case measure => have := HJ2.out; have := HK2.out; omega
        case rel => exact ⟨(x7_2), (wrap64 (x7_2 + 1)), rB, rB, H', ⟨by have := HJ2.out; have := HK2.out; omega⟩, (aB HB)⟩
       ·have H' := Aside0.mk H
        clear H
        go_wp2_with (first | ((with_reducible refine gC 102 ?_); refine lA (some 30) Tryz.func102 (spec_l2Sine.calls x7_2 t156 _ A11.out) ?_; intro w20 hb; replace HB := uB HB hb; (try clear hb)) | ((with_reducible refine gC 101 ?_); refine lA (some 34) Tryz.func101 (spec_l2Cosine.calls x7_2 t157 _ A12.out) ?_; intro w21 hb; replace HB := uB HB hb; (try clear hb)) | ((with_reducible refine gC 102 ?_); refine lA (some 39) Tryz.func102 (spec_l2Sine.calls x6_2 t158 _ A13.out) ?_; intro w22 hb; replace HB := uB HB hb; (try clear hb)) | ((with_reducible refine gC 101 ?_); refine lA (some 43) Tryz.func101 (spec_l2Cosine.calls x6_2 t159 _ A14.out) ?_; intro w23 hb; replace HB := uB HB hb; (try clear hb)))
        go_roundg k2
        case measure => have := HJ2.out; have := HK2.out; omega
        case rel => exact ⟨(x6_2), (wrap64 (x7_2 + 1)), rB, rB, H', ⟨by have := HJ2.out; have := HK2.out; omega⟩, (aB HB)⟩
      ·simp only [Option.some.injEq, Prod.mk.injEq] at H
       obtain ⟨rfl, rfl⟩ := H
       go_wp2
       go_ret2
       exact ⟨eB, (bW HB)⟩

/-! ### spec_SlopeTo: function 88 -/
mutual
def spec_SlopeTo.j0 : Nat → Int → Int → Bool → Option (Int × Bool)
 | 0, _, _, _ => none
 | k + 1, x0, x1, x24 => if x24 = true then (some (0, false)) else (spec_SlopeTo.l0 k x0 x1 0 1)
def spec_SlopeTo.l0 : Nat → Int → Int → Int → Int → Option (Int × Bool)
 | 0, _, _, _, _ => none
 | k + 1, x0, x1, x6, x7 => if x7 ≤ 90 then (spec_SlopeTo.l1 k x0 x1 x6 x7 1) else (some (x6, true))
def spec_SlopeTo.l1 : Nat → Int → Int → Int → Int → Int → Option (Int × Bool)
 | 0, _, _, _, _, _ => none
 | k + 1, x0, x1, x6, x7, x8 => if x8 ≥ (-1) then ((spec_l2Cosine.f x7).bind fun t162 => ((spec_l2Sine.f (wrap64 (x8 * x7))).bind fun t163 => ((spec_l2Cosine.f x6).bind fun t164 => ((spec_l2Sine.f x6).bind fun t165 => (if (wrap64 ((wrap64 (x0 * t162)) + (wrap64 (x1 * t163)))) > (wrap64 ((wrap64 (x0 * t164)) + (wrap64 (x1 * t165)))) then (spec_SlopeTo.l1 k x0 x1 (wrap64 (x8 * x7)) x7 (wrap64 (x8 - 2))) else (spec_SlopeTo.l1 k x0 x1 x6 x7 (wrap64 (x8 - 2)))))))) else (spec_SlopeTo.l0 k x0 x1 x6 (wrap64 (x7 + 1)))
end
def spec_SlopeTo.f (k : Nat) (a0 a1 : Int) : Option (Int × Bool) := (spec_l1In.f a0 0 100000).bind fun t160 => (if t160 = true then ((spec_l2Long.f a1).bind fun t161 => (if t161 = true then (if a0 = 0 then (spec_SlopeTo.j0 k a0 a1 (a1 == 0)) else (spec_SlopeTo.j0 k a0 a1 false)) else (spec_SlopeTo.j0 k a0 a1 true))) else (spec_SlopeTo.j0 k a0 a1 true))
theorem spec_SlopeTo.mono_l : ∀ k, (∀ y0 y1 y2, LeO (spec_SlopeTo.j0 k y0 y1 y2) (spec_SlopeTo.j0 (k + 1) y0 y1 y2)) ∧ (∀ y0 y1 y2 y3, LeO (spec_SlopeTo.l0 k y0 y1 y2 y3) (spec_SlopeTo.l0 (k + 1) y0 y1 y2 y3)) ∧ (∀ y0 y1 y2 y3 y4, LeO (spec_SlopeTo.l1 k y0 y1 y2 y3 y4) (spec_SlopeTo.l1 (k + 1) y0 y1 y2 y3 y4))
 | 0 => ⟨fun _ _ _ r h => by simp [spec_SlopeTo.j0] at h, fun _ _ _ _ r h => by simp [spec_SlopeTo.l0] at h, fun _ _ _ _ _ r h => by simp [spec_SlopeTo.l1] at h⟩
 | k + 1 => by
  obtain ⟨ih0, ih1, ih2⟩ := spec_SlopeTo.mono_l k
  refine ⟨?_, ?_, ?_⟩
  ·intro y0 y1 y2
   unfold spec_SlopeTo.j0
   repeat' with_reducible first | apply ih0 | apply ih1 | apply ih2 | exact LeO.refl _ | exact LeO.none _ | refine LeO.ite ?_ ?_ | refine LeO.bind ?_ (fun _ => ?_)
  ·intro y0 y1 y2 y3
   unfold spec_SlopeTo.l0
   repeat' with_reducible first | apply ih0 | apply ih1 | apply ih2 | exact LeO.refl _ | exact LeO.none _ | refine LeO.ite ?_ ?_ | refine LeO.bind ?_ (fun _ => ?_)
  ·intro y0 y1 y2 y3 y4
   unfold spec_SlopeTo.l1
   repeat' with_reducible first | apply ih0 | apply ih1 | apply ih2 | exact LeO.refl _ | exact LeO.none _ | refine LeO.ite ?_ ?_ | refine LeO.bind ?_ (fun _ => ?_)
theorem spec_SlopeTo.mono : ∀ a0 a1 k, LeO (spec_SlopeTo.f k a0 a1) (spec_SlopeTo.f (k + 1) a0 a1) := by
 intro a0 a1 k
 obtain ⟨ih0, ih1, ih2⟩ := spec_SlopeTo.mono_l k
 unfold spec_SlopeTo.f
 repeat' with_reducible first | apply ih0 | apply ih1 | apply ih2 | exact LeO.refl _ | exact LeO.none _ | refine LeO.ite ?_ ?_ | refine LeO.bind ?_ (fun _ => ?_)
set_option maxHeartbeats 8000000 in
set_option maxRecDepth 100000 in
theorem spec_SlopeTo.calls (k : Nat) (a0 a1 r1 : Int) (r2 : Bool) (w : World) (h : spec_SlopeTo.f k a0 a1 = some (r1, r2)) :
 Calls Tryz.prog 88 #[.int .i64 a0, .int .i64 a1] w fun e w' => e = .returned (.tuple #[.int .i64 r1, .bool r2]) ∧ Below w.heap.size w w' := by
 have HB := Aside0.mk (Below.refl w.heap.size w)
 have H := h
 clear h
 unfold spec_SlopeTo.f at H
 have HC3 := Aside0.mk H
 clear H
 go_enter Tryz.func88, Tryz.ntmps88
 go_upto_region 1 with (fail)
 go_cut [24] (fun v24 wc => ∃ (kq : Nat) (x24_2 : Bool), v24 = .bool x24_2 ∧ Aside0 (spec_SlopeTo.j0 kq a0 a1 x24_2 = some (r1, r2)) ∧ Aside0 (kq ≤ k) ∧ Aside0 (Below w.heap.size w wc))
 case first =>
  have H := HC3.out
  clear HC3
  replace H := bA H
  obtain ⟨t160, A4, H⟩ := H
  rcases Bool.eq_false_or_eq_true t160 with rfl | rfl
  ·replace H := iT rfl H
   replace H := bA H
   obtain ⟨t161, A6, H⟩ := H
   rcases Bool.eq_false_or_eq_true t161 with rfl | rfl
   ·replace H := iT rfl H
    replace H := ifI H
    rcases H with ⟨H, -, c8b0, c8b1⟩ | ⟨H, c8, c8b0, c8b1⟩
    ·(first | rw [c8b0] | (simp only [i64_w, i32_w]; rw [c8b0]) | skip)
     have H' := Aside0.mk H
     clear H
     go_wp2_with (first | ((with_reducible refine gC 64 ?_); refine lA (some 10) Tryz.func64 (spec_l1In.calls a0 0 100000 true _ A4.out) ?_; rintro _ ⟨nd, rfl⟩) | (go_at_call 103; (with_reducible refine (spec_l2Long.calls a1 true _ A6.out).mono ?_); rintro e w' ⟨rfl, ⟨nd, rfl⟩⟩))
     go_meet
     case rel => exact ⟨_, ((a1 == 0)), rB, H', leB, (aB HB)⟩
    ·(first | rw [c8b0] | (simp only [i64_w, i32_w]; rw [c8b0]) | skip)
     have H' := Aside0.mk H
     clear H
     go_wp2_with (first | ((with_reducible refine gC 64 ?_); refine lA (some 10) Tryz.func64 (spec_l1In.calls a0 0 100000 true _ A4.out) ?_; rintro _ ⟨nd, rfl⟩) | (go_at_call 103; (with_reducible refine (spec_l2Long.calls a1 true _ A6.out).mono ?_); rintro e w' ⟨rfl, ⟨nd, rfl⟩⟩))
     go_meet
     case rel => exact ⟨_, (false), rB, H', leB, (aB HB)⟩
   ·replace H := iF (by decide) H
    have H' := Aside0.mk H
    clear H
    go_wp2_with (first | ((with_reducible refine gC 64 ?_); refine lA (some 10) Tryz.func64 (spec_l1In.calls a0 0 100000 true _ A4.out) ?_; rintro _ ⟨nd, rfl⟩) | (go_at_call 103; (with_reducible refine (spec_l2Long.calls a1 false _ A6.out).mono ?_); rintro e w' ⟨rfl, ⟨nd, rfl⟩⟩))
    go_meet
    case rel => exact ⟨_, (true), rB, H', leB, (aB HB)⟩
  ·replace H := iF (by decide) H
   have H' := Aside0.mk H
   clear H
   go_wp2_with (first | ((with_reducible refine gC 64 ?_); refine lA (some 10) Tryz.func64 (spec_l1In.calls a0 0 100000 false _ A4.out) ?_; rintro _ ⟨nd, rfl⟩))
   go_meet
   case rel => exact ⟨_, (true), rB, H', leB, (aB HB)⟩
 case rest =>
  clear HC3
  obtain ⟨kq, x24_2, rfl, HA, HJ2, HB⟩ := hcut
  cases kq with
  | zero => exact absurd HA.out (by simp [spec_SlopeTo.j0])
  | succ kj2 =>
   have H := HA.out
   clear HA
   simp only [spec_SlopeTo.j0] at H
   rcases Bool.eq_false_or_eq_true x24_2 with rfl | rfl
   ·replace H := iT rfl H
    simp only [Option.some.injEq, Prod.mk.injEq] at H
    obtain ⟨rfl, rfl⟩ := H
    go_wp2
    go_ret2
    exact ⟨eB, (bW HB)⟩
   ·replace H := iF (by decide) H
    have H' := Aside0.mk H
    clear H
    go_wp2
    go_loopg [6, 7] kj2 (fun kq v6 v7 w' => ∃ (x6_2 x7_2 : Int), v6 = .int .i64 x6_2 ∧ v7 = .int .i64 x7_2 ∧ Aside0 (spec_SlopeTo.l0 kq a0 a1 x6_2 x7_2 = some (r1, r2)) ∧ Aside0 (kq ≤ kj2) ∧ Aside0 (Below w.heap.size w w'))
    case atStart => exact ⟨(0), (1), rB, rB, H', ⟨Nat.le_refl _⟩, (aB HB)⟩
    case round =>
     clear H'
     obtain ⟨x6_2, x7_2, rfl, rfl, HA, HK2, HB⟩ := hrel
     cases gk with
     | zero => exact absurd HA.out (by simp [spec_SlopeTo.l0])
     | succ k2 =>
      have H := HA.out
      clear HA
      simp only [spec_SlopeTo.l0] at H
      replace H := ifD H
      rcases H with ⟨H, -, c10b0⟩ | ⟨H, -, c10b0⟩
      ·have H' := Aside0.mk H
       clear H
       go_wp2
       go_loopg [6, 8] k2 (fun kq v6 v8 w' => ∃ (x6_3 x8_3 : Int), v6 = .int .i64 x6_3 ∧ v8 = .int .i64 x8_3 ∧ Aside0 (spec_SlopeTo.l1 kq a0 a1 x6_3 x7_2 x8_3 = some (r1, r2)) ∧ Aside0 (kq ≤ k2) ∧ Aside0 (Below w.heap.size w w'))
       case atStart => exact ⟨(x6_2), (1), rB, rB, H', ⟨Nat.le_refl _⟩, (aB HB)⟩
       case round =>
        clear H'
        try clear c10b0
        obtain ⟨x6_3, x8_3, rfl, rfl, HA, HK3, HB⟩ := hrel
        cases gk with
        | zero => exact absurd HA.out (by simp [spec_SlopeTo.l1])
        | succ k3 =>
         have H := HA.out
         clear HA
         simp only [spec_SlopeTo.l1] at H
         replace H := ifD H
         rcases H with ⟨H, -, c11b0⟩ | ⟨H, -, c11b0⟩
         ·replace H := bA H
          obtain ⟨t162, A12, H⟩ := H
          replace H := bA H
          obtain ⟨t163, A13, H⟩ := H
          replace H := bA H
          obtain ⟨t164, A14, H⟩ := H
          replace H := bA H
          obtain ⟨t165, A15, H⟩ := H
          replace H := ifD H
          rcases H with ⟨H, -, c16b0⟩ | ⟨H, -, c16b0⟩
          ·have H' := Aside0.mk H
           clear H
           go_wp2_with (first | ((with_reducible refine gC 101 ?_); refine lA (some 35) Tryz.func101 (spec_l2Cosine.calls x7_2 t162 _ A12.out) ?_; intro w17 hb; replace HB := uB HB hb; (try clear hb)) | ((with_reducible refine gC 102 ?_); refine lA (some 41) Tryz.func102 (spec_l2Sine.calls (wrap64 (x8_3 * x7_2)) t163 _ A13.out) ?_; intro w18 hb; replace HB := uB HB hb; (try clear hb)) | ((with_reducible refine gC 101 ?_); refine lA (some 46) Tryz.func101 (spec_l2Cosine.calls x6_3 t164 _ A14.out) ?_; intro w19 hb; replace HB := uB HB hb; (try clear hb)) | ((with_reducible refine gC 102 ?_); refine lA (some 50) Tryz.func102 (spec_l2Sine.calls x6_3 t165 _ A15.out) ?_; intro w20 hb; replace HB := uB HB hb; (try clear hb)))
           go_roundg k3
           case measure => have := HJ2.out; have := HK2.out; have := HK3.out; omega
           case rel => exact ⟨(wrap64 (x8_3 * x7_2)), (wrap64 (x8_3 - 2)), rB, rB, H', ⟨by have := HJ2.out; have := HK2.out; have := HK3.out; omega⟩, (aB HB)⟩
          ·have H' := Aside0.mk H
           clear H
           go_wp2_with (first | ((with_reducible refine gC 101 ?_); refine lA (some 35) Tryz.func101 (spec_l2Cosine.calls x7_2 t162 _ A12.out) ?_; intro w21 hb; replace HB := uB HB hb; (try clear hb)) | ((with_reducible refine gC 102 ?_); refine lA (some 41) Tryz.func102 (spec_l2Sine.calls (wrap64 (x8_3 * x7_2)) t163 _ A13.out) ?_; intro w22 hb; replace HB := uB HB hb; (try clear hb)) | ((with_reducible refine gC 101 ?_); refine lA (some 46) Tryz.func101 (spec_l2Cosine.calls x6_3 t164 _ A14.out) ?_; intro w23 hb; replace HB := uB HB hb; (try clear hb)) | ((with_reducible refine gC 102 ?_); refine lA (some 50) Tryz.func102 (spec_l2Sine.calls x6_3 t165 _ A15.out) ?_; intro w24 hb; replace HB := uB HB hb; (try clear hb)))
           go_roundg k3
           case measure => have := HJ2.out; have := HK2.out; have := HK3.out; omega
           case rel => exact ⟨(x6_3), (wrap64 (x8_3 - 2)), rB, rB, H', ⟨by have := HJ2.out; have := HK2.out; have := HK3.out; omega⟩, (aB HB)⟩
         ·have H' := Aside0.mk H
          clear H
          go_wp2
          go_roundg k3
          case measure => have := HJ2.out; have := HK2.out; have := HK3.out; omega
          case rel => exact ⟨(x6_3), (wrap64 (x7_2 + 1)), rB, rB, H', ⟨by have := HJ2.out; have := HK2.out; have := HK3.out; omega⟩, (aB HB)⟩
      ·simp only [Option.some.injEq, Prod.mk.injEq] at H
       obtain ⟨rfl, rfl⟩ := H
       go_wp2
       go_ret2
       exact ⟨eB, (bW HB)⟩

/-! ### spec_l1Cur_leg: function 89 -/
def spec_l1Cur_leg.j0 : Nat → List Int → Int → Int → Int → Int → Int → Int → Int → Option (Int × Int × Int × Int × Int × Int × Int)
 | 0, _, _, _, _, _, _, _, _ => none
 | k + 1, x1000, x1001, x1002, x192000, x192001, x192002, x192003, x192004 => (spec_l1Cur_pick.f x1000 x1001 x1002 40).bind fun bt192 => (if bt192.1 = 0 then ((spec_l1Cur_among.f x1000 bt192.2.1 bt192.2.2 (([(-1), 7, 8, x192000] : List Int))).bind fun bt198 => (some (x192000, bt198.1, x192002, x192003, x192004, bt198.2.1, bt198.2.2))) else (if bt192.1 = 1 then ((spec_l1Cur_among.f x1000 bt192.2.1 bt192.2.2 (([0, 501] : List Int))).bind fun bt204 => (some (x192000, x192001, bt204.1, x192003, x192004, bt204.2.1, bt204.2.2))) else (if bt192.1 = 2 then ((spec_l1Cur_among.f x1000 bt192.2.1 bt192.2.2 (([(-1), 360] : List Int))).bind fun bt210 => (some (x192000, x192001, x192002, bt210.1, x192004, bt210.2.1, bt210.2.2))) else (if bt192.1 = 3 then ((spec_l1Cur_among.f x1000 bt192.2.1 bt192.2.2 (([(-91), 91] : List Int))).bind fun bt216 => (some (x192000, x192001, x192002, x192003, bt216.1, bt216.2.1, bt216.2.2))) else (some (x192000, x192001, x192002, x192003, x192004, bt192.2.1, bt192.2.2))))))
def spec_l1Cur_leg.f (k : Nat) (s0_0 : List Int) (s0_1 s0_2 : Int) : Option (Int × Int × Int × Int × Int × Int × Int) := (spec_l1Cur_pick.f s0_0 s0_1 s0_2 6).bind fun bt167 => ((spec_l1Cur_pick.f s0_0 bt167.2.1 bt167.2.2 6).bind fun bt170 => ((spec_l1Cur_among.f s0_0 bt170.2.1 bt170.2.2 (([1, 10, 50, 100, 120, 250, 500] : List Int))).bind fun bt176 => ((spec_l1Cur_among.f s0_0 bt176.2.1 bt176.2.2 (([0, 45, 90, 135, 180, 270, 359, 17, 222] : List Int))).bind fun bt182 => ((spec_l1Cur_among.f s0_0 bt182.2.1 bt182.2.2 (([0, 0, 0, 5, (-5), 30, (-45), 90, (-90)] : List Int))).bind fun bt188 => (if bt167.1 = bt170.1 then (spec_l1Cur_leg.j0 k s0_0 bt188.2.1 bt188.2.2 bt167.1 (Int.tmod (wrap64 (bt170.1 + 1)) 6) bt176.1 bt182.1 bt188.1) else (spec_l1Cur_leg.j0 k s0_0 bt188.2.1 bt188.2.2 bt167.1 bt170.1 bt176.1 bt182.1 bt188.1))))))
theorem spec_l1Cur_leg.mono_l : ∀ k, (∀ y0 y1 y2 y3 y4 y5 y6 y7, LeO (spec_l1Cur_leg.j0 k y0 y1 y2 y3 y4 y5 y6 y7) (spec_l1Cur_leg.j0 (k + 1) y0 y1 y2 y3 y4 y5 y6 y7))
 | 0 => fun _ _ _ _ _ _ _ _ r h => by simp [spec_l1Cur_leg.j0] at h
 | k + 1 => by
  have ih0 := spec_l1Cur_leg.mono_l k
  ·intro y0 y1 y2 y3 y4 y5 y6 y7
   unfold spec_l1Cur_leg.j0
   repeat' with_reducible first | apply ih0 | exact LeO.refl _ | exact LeO.none _ | refine LeO.ite ?_ ?_ | refine LeO.bind ?_ (fun _ => ?_)
theorem spec_l1Cur_leg.mono : ∀ a0 a1 a2 k, LeO (spec_l1Cur_leg.f k a0 a1 a2) (spec_l1Cur_leg.f (k + 1) a0 a1 a2) := by
 intro a0 a1 a2 k
 have ih0 := spec_l1Cur_leg.mono_l k
 unfold spec_l1Cur_leg.f
 repeat' with_reducible first | apply ih0 | exact LeO.refl _ | exact LeO.none _ | refine LeO.ite ?_ ?_ | refine LeO.bind ?_ (fun _ => ?_)
set_option maxHeartbeats 8000000 in
set_option maxRecDepth 100000 in
theorem spec_l1Cur_leg.calls (k g : Nat) (s0_0 : List Int) (s0_1 s0_2 r1 r2 r3 r4 r5 r6 r7 : Int) (w0 w : World) (hI : IsS54 w0 w g s0_0 s0_1 s0_2) (hB : Below w0.heap.size w0 w) (h : spec_l1Cur_leg.f k s0_0 s0_1 s0_2 = some (r1, r2, r3, r4, r5, r6, r7)) :
 Calls Tryz.prog 89 #[.pointer (some ⟨g, 0, none⟩)] w fun e w' => e = .returned (.agg #[.int .i64 r1, .int .i64 r2, .int .i64 r3, .int .i64 r4, .int .i64 r5]) ∧ IsS54 w0 w' g s0_0 r6 r7 ∧ Below w0.heap.size w0 w' ∧ KeepBut w w' g none := by
 have hu32 := Tryz.underlying32
 have HI0 := Aside0.mk hI
 have HK := Aside0.mk (KeepBut.refl w g none)
 have HL := Aside0.mk hB.size
 clear hI
 have HW0 := Aside0.mk hB.size
 have HB := Aside0.mk hB
 clear hB
 have H := h
 clear h
 unfold spec_l1Cur_leg.f at H
 replace H := Option.bind_eq_some_iff.mp H
 obtain ⟨⟨t167, t168, t169⟩, A20, H⟩ := H
 (try dsimp only at H)
 have A2 := Aside0.mk A20
 clear A20
 replace H := Option.bind_eq_some_iff.mp H
 obtain ⟨⟨t170, t171, t172⟩, A30, H⟩ := H
 (try dsimp only at H)
 have A3 := Aside0.mk A30
 clear A30
 obtain ⟨y173, hy173⟩ : ∃ y_ : List Int, y_ = (([1, 10, 50, 100, 120, 250, 500] : List Int)) := ⟨_, rfl⟩
 rw [← hy173] at H
 have Ny173 := Aside0.mk hy173
 clear hy173
 replace H := Option.bind_eq_some_iff.mp H
 obtain ⟨⟨t176, t177, t178⟩, A40, H⟩ := H
 (try dsimp only at H)
 have A4 := Aside0.mk A40
 clear A40
 obtain ⟨y179, hy179⟩ : ∃ y_ : List Int, y_ = (([0, 45, 90, 135, 180, 270, 359, 17, 222] : List Int)) := ⟨_, rfl⟩
 rw [← hy179] at H
 have Ny179 := Aside0.mk hy179
 clear hy179
 replace H := Option.bind_eq_some_iff.mp H
 obtain ⟨⟨t182, t183, t184⟩, A50, H⟩ := H
 (try dsimp only at H)
 have A5 := Aside0.mk A50
 clear A50
 obtain ⟨y185, hy185⟩ : ∃ y_ : List Int, y_ = (([0, 0, 0, 5, (-5), 30, (-45), 90, (-90)] : List Int)) := ⟨_, rfl⟩
 rw [← hy185] at H
 have Ny185 := Aside0.mk hy185
 clear hy185
 replace H := Option.bind_eq_some_iff.mp H
 obtain ⟨⟨t188, t189, t190⟩, A60, H⟩ := H
 (try dsimp only at H)
 have A6 := Aside0.mk A60
 clear A60
 have HC7 := Aside0.mk H
 clear H
 go_enter Tryz.func89, Tryz.ntmps89
 go_upto_if 22 with (first | ((with_reducible refine gD 2 ?_); refine bxE 2 32 #[.int .i64 0, .int .i64 0, .int .i64 0, .int .i64 0, .int .i64 0] fun gb166 w8 hg hbox hb => ?_; have BK166 := Aside0.mk hbox; have GW166 := Aside0.mk ((by rw [hg]; exact (keep_size (w := w) (g := g) (row := none) (zK HK)) : w.heap.size ≤ gb166)); have GE166 := Aside0.mk ((Nat.le_trans HW0.out (by rw [hg]; exact (keep_size (w := w) (g := g) (row := none) (zK HK)) : w.heap.size ≤ gb166) : w0.heap.size ≤ gb166)); have NB0_166 := Aside0.mk ((by rw [hg]; exact Nat.ne_of_lt (IsS54.lt (show IsS54 w0 _ g s0_0 s0_1 s0_2 from zI HI0)) : g ≠ gb166)); have NB166_0 := Aside0.mk ((by rw [hg]; exact Nat.ne_of_gt (IsS54.lt (show IsS54 w0 _ g s0_0 s0_1 s0_2 from zI HI0)) : gb166 ≠ g)); replace HK := zKK HK (KeepBut.of_below hb g none); replace HB := Aside0.mk (below_step (zB HB HI0) hb); replace HI0 := Aside0.mk (IsS54.below (keepF_ HI0 <| zI HI0) hb); clear hb hbox hg) | ((with_reducible refine gC 60 ?_); refine zG (some 5) Tryz.func60 (spec_l1Cur_pick.calls g s0_0 s0_1 s0_2 6 t167 t168 t169 w0 _ (zI HI0) (zB HB HI0) A2.out) ?_; rintro e w9 ⟨rfl, hi, hb, hk⟩; refine ⟨_, rfl, ?_⟩; replace BK166 := Aside0.mk (KeepBut.blk hk (g' := gb166) (o := .cells #[.int .i64 0, .int .i64 0, .int .i64 0, .int .i64 0, .int .i64 0] 32 (0, 0)) (upK BK166.out) NB166_0.out (by simp)); replace HK := zKK HK hk; replace HB := Aside0.mk (hb); replace HI0 := Aside0.mk (hi); (try clear hb); (try clear hk); (try clear hi)) | ((with_reducible refine gC 60 ?_); refine zG (some 7) Tryz.func60 (spec_l1Cur_pick.calls g s0_0 t168 t169 6 t170 t171 t172 w0 _ (zI HI0) (zB HB HI0) A3.out) ?_; rintro e w10 ⟨rfl, hi, hb, hk⟩; refine ⟨_, rfl, ?_⟩; replace BK166 := Aside0.mk (KeepBut.blk hk (g' := gb166) (o := .cells #[.int .i64 0, .int .i64 0, .int .i64 0, .int .i64 0, .int .i64 0] 32 (0, 0)) (upK BK166.out) NB166_0.out (by simp)); replace HK := zKK HK hk; replace HB := Aside0.mk (hb); replace HI0 := Aside0.mk (hi); (try clear hb); (try clear hk); (try clear hi)) | ((with_reducible refine gate_dst (N := 9) rfl ?_); refine Kd.R_lit (Kd.int .i64) _ 3 ?hg (N := 9) ?hd (xs := ([1, 10, 50, 100, 120, 250, 500] : List Int)) (inner := [.int .i64 1, .int .i64 10, .int .i64 50, .int .i64 100, .int .i64 120, .int .i64 250, .int .i64 500]) (ok := fun _ => True) (okp := fun _ => True) ?hr ?hp (fun _ hk => hk) trivial (Below.refl _ _) (Nat.le_refl _) (by simp) ?_; (case hd => rfl); (case hg => rfl); (case hr => first | (go_simp; done) | (go_simp; rfl)); (case hp => exact zInts _); intro v174 w11 ho12 hb hg_ hnew_; clear hg_ hnew_; (first | rw [← Ny173.out] at ho12 | (simp only [Int.reduceToNat] at ho12; rw [← Ny173.out] at ho12)); have HO175 := Aside0.mk (Kd.R_lower ho12 (keep_size (w := w) (g := g) (row := none) (zK HK))); replace BK166 := uK BK166 hb; replace HK := zKK HK (KeepBut.of_below hb g none); replace HB := Aside0.mk (below_step (zB HB HI0) hb); replace HI0 := Aside0.mk (IsS54.below (keepF_ HI0 <| zI HI0) hb); clear hb ho12; obtain ⟨Ao13, co13, eo13⟩ := Kd.R_slice HO175.out; subst eo13) | ((with_reducible refine gC 61 ?_); refine zG (some 10) Tryz.func61 (spec_l1Cur_among.calls g s0_0 t171 t172 _ _ y173 t176 t177 t178 w0 _ (zI HI0) (zB HB HI0) (zCR HO175) ((Kd.R_reads' HO175.out).2.1) (far_slice (IsS54.own_ne HI0.out HO175.out (by decide))) A4.out) ?_; rintro e w14 ⟨rfl, hi, hb, hk⟩; refine ⟨_, rfl, ?_⟩; replace BK166 := Aside0.mk (KeepBut.blk hk (g' := gb166) (o := .cells #[.int .i64 0, .int .i64 0, .int .i64 0, .int .i64 0, .int .i64 0] 32 (0, 0)) (upK BK166.out) NB166_0.out (by simp)); replace HO175 := zO t171 t172 HI0 HO175 hk; replace HK := zKK HK hk; replace HB := Aside0.mk (hb); replace HI0 := Aside0.mk (hi); (try clear hb); (try clear hk); (try clear hi)) | ((with_reducible refine gate_dst (N := 12) rfl ?_); refine Kd.R_lit (Kd.int .i64) _ 3 ?hg (N := 12) ?hd (xs := ([0, 45, 90, 135, 180, 270, 359, 17, 222] : List Int)) (inner := [.int .i64 0, .int .i64 45, .int .i64 90, .int .i64 135, .int .i64 180, .int .i64 270, .int .i64 359, .int .i64 17, .int .i64 222]) (ok := fun _ => True) (okp := fun _ => True) ?hr ?hp (fun _ hk => hk) trivial (Below.refl _ _) (Nat.le_refl _) (by simp) ?_; (case hd => rfl); (case hg => rfl); (case hr => first | (go_simp; done) | (go_simp; rfl)); (case hp => exact zInts _); intro v180 w15 ho16 hb hg_ hnew_; clear hg_ hnew_; (first | rw [← Ny179.out] at ho16 | (simp only [Int.reduceToNat] at ho16; rw [← Ny179.out] at ho16)); have HO181 := Aside0.mk (Kd.R_lower (Kd.R_new' ho16 (Kd.R_lt (upR HO175.out))) (keep_size (w := w) (g := g) (row := none) (zK HK))); replace HO175 := Aside0.mk (Kd.R_elder' (upR HO175.out) (Kd.R_base ho16) hb); replace BK166 := uK BK166 hb; replace HK := zKK HK (KeepBut.of_below hb g none); replace HB := Aside0.mk (below_step (zB HB HI0) hb); replace HI0 := Aside0.mk (IsS54.below (keepF_ HI0 <| zI HI0) hb); clear hb ho16; obtain ⟨Ao17, co17, eo17⟩ := Kd.R_slice HO181.out; subst eo17) | ((with_reducible refine gC 61 ?_); refine zG (some 13) Tryz.func61 (spec_l1Cur_among.calls g s0_0 t177 t178 _ _ y179 t182 t183 t184 w0 _ (zI HI0) (zB HB HI0) (zCR HO181) ((Kd.R_reads' HO181.out).2.1) (far_slice (IsS54.own_ne HI0.out HO181.out (by decide))) A5.out) ?_; rintro e w18 ⟨rfl, hi, hb, hk⟩; refine ⟨_, rfl, ?_⟩; replace BK166 := Aside0.mk (KeepBut.blk hk (g' := gb166) (o := .cells #[.int .i64 0, .int .i64 0, .int .i64 0, .int .i64 0, .int .i64 0] 32 (0, 0)) (upK BK166.out) NB166_0.out (by simp)); replace HO175 := zO t177 t178 HI0 HO175 hk; replace HO181 := zO t177 t178 HI0 HO181 hk; replace HK := zKK HK hk; replace HB := Aside0.mk (hb); replace HI0 := Aside0.mk (hi); (try clear hb); (try clear hk); (try clear hi)) | ((with_reducible refine gate_dst (N := 15) rfl ?_); refine Kd.R_lit (Kd.int .i64) _ 3 ?hg (N := 15) ?hd (xs := ([0, 0, 0, 5, (-5), 30, (-45), 90, (-90)] : List Int)) (inner := [.int .i64 0, .int .i64 0, .int .i64 0, .int .i64 5, .int .i64 (-5), .int .i64 30, .int .i64 (-45), .int .i64 90, .int .i64 (-90)]) (ok := fun _ => True) (okp := fun _ => True) ?hr ?hp (fun _ hk => hk) trivial (Below.refl _ _) (Nat.le_refl _) (by simp) ?_; (case hd => rfl); (case hg => rfl); (case hr => first | (go_simp; done) | (go_simp; rfl)); (case hp => exact zInts _); intro v186 w19 ho20 hb hg_ hnew_; clear hg_ hnew_; (first | rw [← Ny185.out] at ho20 | (simp only [Int.reduceToNat] at ho20; rw [← Ny185.out] at ho20)); have HO187 := Aside0.mk (Kd.R_lower (Kd.R_new' (Kd.R_new' ho20 (Kd.R_lt (upR HO175.out))) (Kd.R_lt (upR HO181.out))) (keep_size (w := w) (g := g) (row := none) (zK HK))); replace HO175 := Aside0.mk (Kd.R_elder' (upR HO175.out) (Kd.R_base ho20) hb); replace HO181 := Aside0.mk (Kd.R_elder' (upR HO181.out) (Kd.R_base ho20) hb); replace BK166 := uK BK166 hb; replace HK := zKK HK (KeepBut.of_below hb g none); replace HB := Aside0.mk (below_step (zB HB HI0) hb); replace HI0 := Aside0.mk (IsS54.below (keepF_ HI0 <| zI HI0) hb); clear hb ho20; obtain ⟨Ao21, co21, eo21⟩ := Kd.R_slice HO187.out; subst eo21) | ((with_reducible refine gC 61 ?_); refine zG (some 16) Tryz.func61 (spec_l1Cur_among.calls g s0_0 t183 t184 _ _ y185 t188 t189 t190 w0 _ (zI HI0) (zB HB HI0) (zCR HO187) ((Kd.R_reads' HO187.out).2.1) (far_slice (IsS54.own_ne HI0.out HO187.out (by decide))) A6.out) ?_; rintro e w22 ⟨rfl, hi, hb, hk⟩; refine ⟨_, rfl, ?_⟩; replace BK166 := Aside0.mk (KeepBut.blk hk (g' := gb166) (o := .cells #[.int .i64 0, .int .i64 0, .int .i64 0, .int .i64 0, .int .i64 0] 32 (0, 0)) (upK BK166.out) NB166_0.out (by simp)); replace HO175 := zO t183 t184 HI0 HO175 hk; replace HO181 := zO t183 t184 HI0 HO181 hk; replace HO187 := zO t183 t184 HI0 HO187 hk; replace HK := zKK HK hk; replace HB := Aside0.mk (hb); replace HI0 := Aside0.mk (hi); (try clear hb); (try clear hk); (try clear hi)) | ((with_reducible refine gD 3 ?_); refine bxE 3 32 #[.int .i64 0, .int .i64 0, .int .i64 0, .int .i64 0, .int .i64 0] fun gb191 w23 hg hbox hb => ?_; have BK191 := Aside0.mk hbox; have GW191 := Aside0.mk ((by rw [hg]; exact (keep_size (w := w) (g := g) (row := none) (zK HK)) : w.heap.size ≤ gb191)); have GE191 := Aside0.mk ((Nat.le_trans HW0.out (by rw [hg]; exact (keep_size (w := w) (g := g) (row := none) (zK HK)) : w.heap.size ≤ gb191) : w0.heap.size ≤ gb191)); have ⟨NB166_191, NB191_166⟩ := nB BK166 hg; have NB0_191 := Aside0.mk ((by rw [hg]; exact Nat.ne_of_lt (IsS54.lt (show IsS54 w0 _ g s0_0 t189 t190 from zI HI0)) : g ≠ gb191)); have NB191_0 := Aside0.mk ((by rw [hg]; exact Nat.ne_of_gt (IsS54.lt (show IsS54 w0 _ g s0_0 t189 t190 from zI HI0)) : gb191 ≠ g)); replace HO175 := uR HO175 hb; replace HO181 := uR HO181 hb; replace HO187 := uR HO187 hb; replace BK166 := uK BK166 hb; replace HK := zKK HK (KeepBut.of_below hb g none); replace HB := Aside0.mk (below_step (zB HB HI0) hb); replace HI0 := Aside0.mk (IsS54.below (keepF_ HI0 <| zI HI0) hb); clear hb hbox hg; have hnb24 := NB191_166.out; have hnc24 := NB166_191.out; have hnb25 := NB191_0.out; have hnc25 := NB0_191.out; have ⟨hcz26_0, hcz26_1, hcz26_2, hcz26_3, hcz26_4, hfz26_0⟩ := cz5 BK191))
 (try simp only [Act.put, List.setIfInBounds_toArray, List.set_cons_zero, List.set_cons_succ])
 go_cut [] (fun wc => ∃ (kq : Nat) (x192001_6 : Int), Aside0 (spec_l1Cur_leg.j0 kq s0_0 t189 t190 t167 x192001_6 t176 t182 t188 = some (r1, r2, r3, r4, r5, r6, r7)) ∧ Aside0 (kq ≤ k) ∧ Aside0 (wc.heap[gb166]? = some (.cells #[.int .i64 0, .int .i64 0, .int .i64 0, .int .i64 0, .int .i64 0] 32 (0, 0))) ∧ Aside0 (wc.heap[gb191]? = some (.cells #[.int .i64 t167, .int .i64 x192001_6, .int .i64 t176, .int .i64 t182, .int .i64 t188] 32 (0, 0))) ∧ Aside0 (IsS54 w0 wc g s0_0 t189 t190) ∧ Aside0 (KeepBut w wc g none) ∧ Aside0 (Below w0.heap.size w0 wc))
 case first =>
  have H := HC7.out
  clear HC7
  replace H := ifI H
  rcases H with ⟨H, -, c27b0, c27b1⟩ | ⟨H, c27, c27b0, c27b1⟩
  ·(first | rw [c27b0] | (simp only [i64_w, i32_w]; rw [c27b0]) | skip)
   have H' := Aside0.mk H
   clear H
   have hnb28 := NB191_166.out
   have hnc28 := NB166_191.out
   have hnb29 := NB191_0.out
   have hnc29 := NB0_191.out
   have ⟨hcz30_0, hcz30_1, hcz30_2, hcz30_3, hcz30_4, hfz30_0⟩ := cz5 BK191
   go_wp2
   go_meet
   case rel => exact ⟨_, (Int.tmod (wrap64 (t170 + 1)) 6), H', leB, ⟨by exact pW BK166⟩, ⟨by exact pW BK191⟩, ⟨zI HI0⟩, ⟨zK HK⟩, ⟨zB HB HI0⟩⟩
  ·(first | rw [c27b0] | (simp only [i64_w, i32_w]; rw [c27b0]) | skip)
   have H' := Aside0.mk H
   clear H
   go_wp2
   go_meet
   case rel => exact ⟨_, (t170), H', leB, ⟨by exact pW BK166⟩, ⟨by exact pW BK191⟩, ⟨zI HI0⟩, ⟨zK HK⟩, ⟨zB HB HI0⟩⟩
 case rest =>
  clear HC7
  try clear hcz26_0
  try clear hcz26_1
  try clear hcz26_2
  try clear hcz26_3
  try clear hcz26_4
  try clear hfz26_0
  obtain ⟨kq, x192001_6, HA, HJ6, BK166, BK191, HI0, HK, HB⟩ := hcut
  cases kq with
  | zero => exact absurd HA.out (by simp [spec_l1Cur_leg.j0])
  | succ kj6 =>
   have H := HA.out
   clear HA
   simp only [spec_l1Cur_leg.j0] at H
   replace H := Option.bind_eq_some_iff.mp H
   obtain ⟨⟨t192, t193, t194⟩, A310, H⟩ := H
   (try dsimp only at H)
   have A31 := Aside0.mk A310
   clear A310
   replace H := ifI H
   rcases H with ⟨H, -, c32b0, c32b1⟩ | ⟨H, c32, c32b0, c32b1⟩
   ·obtain ⟨y195, hy195⟩ : ∃ y_ : List Int, y_ = (([(-1), 7, 8, t167] : List Int)) := ⟨_, rfl⟩
    rw [← hy195] at H
    have Ny195 := Aside0.mk hy195
    clear hy195
    replace H := Option.bind_eq_some_iff.mp H
    obtain ⟨⟨t198, t199, t200⟩, A330, H⟩ := H
    (try dsimp only at H)
    have A33 := Aside0.mk A330
    clear A330
    simp only [Option.some.injEq, Prod.mk.injEq] at H
    obtain ⟨rfl, rfl, rfl, rfl, rfl, rfl, rfl⟩ := H
    go_wp2_with (first | ((with_reducible refine gC 60 ?_); refine zG (some 29) Tryz.func60 (spec_l1Cur_pick.calls g s0_0 t189 t190 40 t192 t193 t194 w0 _ (zI HI0) (zB HB HI0) A31.out) ?_; rintro e w34 ⟨rfl, hi, hb, hk⟩; refine ⟨_, rfl, ?_⟩; replace BK166 := Aside0.mk (KeepBut.blk hk (g' := gb166) (o := .cells #[.int .i64 0, .int .i64 0, .int .i64 0, .int .i64 0, .int .i64 0] 32 (0, 0)) (upK BK166.out) NB166_0.out (by simp)); replace BK191 := Aside0.mk (KeepBut.blk hk (g' := gb191) (o := .cells #[.int .i64 t167, .int .i64 x192001_6, .int .i64 t176, .int .i64 t182, .int .i64 t188] 32 (0, 0)) (upK BK191.out) NB191_0.out (by simp)); replace HK := zKK HK hk; replace HB := Aside0.mk (hb); replace HI0 := Aside0.mk (hi); (try clear hb); (try clear hk); (try clear hi); have hnb35 := NB191_166.out; have hnc35 := NB166_191.out; have hnb36 := NB191_0.out; have hnc36 := NB0_191.out; have ⟨hcz37_0, hcz37_1, hcz37_2, hcz37_3, hcz37_4, hfz37_0⟩ := cz5 BK191) | ((with_reducible refine gate_dst (N := 35) rfl ?_); refine Kd.R_lit (Kd.int .i64) _ 3 ?hg (N := 35) ?hd (xs := ([(-1), 7, 8, t167] : List Int)) (inner := [.int .i64 (-1), .int .i64 7, .int .i64 8, .int .i64 t167]) (ok := fun _ => True) (okp := fun _ => True) ?hr ?hp (fun _ hk => hk) trivial (Below.refl _ _) (Nat.le_refl _) (by simp) ?_; (case hd => rfl); (case hg => rfl); (case hr => first | (go_simp; done) | (go_simp; rfl)); (case hp => exact zInts _); intro v196 w38 ho39 hb hg_ hnew_; clear hg_ hnew_; (first | rw [← Ny195.out] at ho39 | (simp only [Int.reduceToNat] at ho39; rw [← Ny195.out] at ho39)); have HO197 := Aside0.mk (Kd.R_lower ho39 (keep_size (w := w) (g := g) (row := none) (zK HK))); replace BK166 := uK BK166 hb; replace BK191 := uK BK191 hb; replace HK := zKK HK (KeepBut.of_below hb g none); replace HB := Aside0.mk (below_step (zB HB HI0) hb); replace HI0 := Aside0.mk (IsS54.below (keepF_ HI0 <| zI HI0) hb); clear hb ho39; obtain ⟨Ao40, co40, eo40⟩ := Kd.R_slice HO197.out; subst eo40) | ((with_reducible refine gC 61 ?_); refine zG (some 36) Tryz.func61 (spec_l1Cur_among.calls g s0_0 t193 t194 _ _ y195 t198 t199 t200 w0 _ (zI HI0) (zB HB HI0) (zCR HO197) ((Kd.R_reads' HO197.out).2.1) (far_slice (IsS54.own_ne HI0.out HO197.out (by decide))) A33.out) ?_; rintro e w41 ⟨rfl, hi, hb, hk⟩; refine ⟨_, rfl, ?_⟩; replace BK166 := Aside0.mk (KeepBut.blk hk (g' := gb166) (o := .cells #[.int .i64 0, .int .i64 0, .int .i64 0, .int .i64 0, .int .i64 0] 32 (0, 0)) (upK BK166.out) NB166_0.out (by simp)); replace BK191 := Aside0.mk (KeepBut.blk hk (g' := gb191) (o := .cells #[.int .i64 t167, .int .i64 x192001_6, .int .i64 t176, .int .i64 t182, .int .i64 t188] 32 (0, 0)) (upK BK191.out) NB191_0.out (by simp)); replace HO197 := zO t193 t194 HI0 HO197 hk; replace HK := zKK HK hk; replace HB := Aside0.mk (hb); replace HI0 := Aside0.mk (hi); (try clear hb); (try clear hk); (try clear hi); have ⟨hcz42_0, hcz42_1, hcz42_2, hcz42_3, hcz42_4, hfz42_0⟩ := cz5 BK191; have hnb43 := NB166_0.out; have hnc43 := NB0_166.out; have ⟨hcz44_0, hcz44_1, hcz44_2, hcz44_3, hcz44_4, hfz44_0⟩ := cz5 BK166))
    refine bodyPost_ret (results_cell_row rfl _ _ gb166 32 #[.int .i64 t167, .int .i64 t198, .int .i64 t176, .int .i64 t182, .int .i64 t188] (0, 0) _ rfl (by exact pW BK166) Tryz.underlying32 rfl (by kernel_rfl)) rfl ?_
    exact ⟨eB, zI HI0, zB HB HI0, zK HK⟩
   ·replace H := ifI H
    rcases H with ⟨H, -, c45b0, c45b1⟩ | ⟨H, c45, c45b0, c45b1⟩
    ·obtain ⟨y201, hy201⟩ : ∃ y_ : List Int, y_ = (([0, 501] : List Int)) := ⟨_, rfl⟩
     rw [← hy201] at H
     have Ny201 := Aside0.mk hy201
     clear hy201
     replace H := Option.bind_eq_some_iff.mp H
     obtain ⟨⟨t204, t205, t206⟩, A460, H⟩ := H
     (try dsimp only at H)
     have A46 := Aside0.mk A460
     clear A460
     simp only [Option.some.injEq, Prod.mk.injEq] at H
     obtain ⟨rfl, rfl, rfl, rfl, rfl, rfl, rfl⟩ := H
     go_wp2_with (first | ((with_reducible refine gC 60 ?_); refine zG (some 29) Tryz.func60 (spec_l1Cur_pick.calls g s0_0 t189 t190 40 t192 t193 t194 w0 _ (zI HI0) (zB HB HI0) A31.out) ?_; rintro e w47 ⟨rfl, hi, hb, hk⟩; refine ⟨_, rfl, ?_⟩; replace BK166 := Aside0.mk (KeepBut.blk hk (g' := gb166) (o := .cells #[.int .i64 0, .int .i64 0, .int .i64 0, .int .i64 0, .int .i64 0] 32 (0, 0)) (upK BK166.out) NB166_0.out (by simp)); replace BK191 := Aside0.mk (KeepBut.blk hk (g' := gb191) (o := .cells #[.int .i64 t167, .int .i64 x192001_6, .int .i64 t176, .int .i64 t182, .int .i64 t188] 32 (0, 0)) (upK BK191.out) NB191_0.out (by simp)); replace HK := zKK HK hk; replace HB := Aside0.mk (hb); replace HI0 := Aside0.mk (hi); (try clear hb); (try clear hk); (try clear hi)) | ((with_reducible refine gate_dst (N := 41) rfl ?_); refine Kd.R_lit (Kd.int .i64) _ 3 ?hg (N := 41) ?hd (xs := ([0, 501] : List Int)) (inner := [.int .i64 0, .int .i64 501]) (ok := fun _ => True) (okp := fun _ => True) ?hr ?hp (fun _ hk => hk) trivial (Below.refl _ _) (Nat.le_refl _) (by simp) ?_; (case hd => rfl); (case hg => rfl); (case hr => first | (go_simp; done) | (go_simp; rfl)); (case hp => exact zInts _); intro v202 w48 ho49 hb hg_ hnew_; clear hg_ hnew_; (first | rw [← Ny201.out] at ho49 | (simp only [Int.reduceToNat] at ho49; rw [← Ny201.out] at ho49)); have HO203 := Aside0.mk (Kd.R_lower ho49 (keep_size (w := w) (g := g) (row := none) (zK HK))); replace BK166 := uK BK166 hb; replace BK191 := uK BK191 hb; replace HK := zKK HK (KeepBut.of_below hb g none); replace HB := Aside0.mk (below_step (zB HB HI0) hb); replace HI0 := Aside0.mk (IsS54.below (keepF_ HI0 <| zI HI0) hb); clear hb ho49; obtain ⟨Ao50, co50, eo50⟩ := Kd.R_slice HO203.out; subst eo50) | ((with_reducible refine gC 61 ?_); refine zG (some 42) Tryz.func61 (spec_l1Cur_among.calls g s0_0 t193 t194 _ _ y201 t204 t205 t206 w0 _ (zI HI0) (zB HB HI0) (zCR HO203) ((Kd.R_reads' HO203.out).2.1) (far_slice (IsS54.own_ne HI0.out HO203.out (by decide))) A46.out) ?_; rintro e w51 ⟨rfl, hi, hb, hk⟩; refine ⟨_, rfl, ?_⟩; replace BK166 := Aside0.mk (KeepBut.blk hk (g' := gb166) (o := .cells #[.int .i64 0, .int .i64 0, .int .i64 0, .int .i64 0, .int .i64 0] 32 (0, 0)) (upK BK166.out) NB166_0.out (by simp)); replace BK191 := Aside0.mk (KeepBut.blk hk (g' := gb191) (o := .cells #[.int .i64 t167, .int .i64 x192001_6, .int .i64 t176, .int .i64 t182, .int .i64 t188] 32 (0, 0)) (upK BK191.out) NB191_0.out (by simp)); replace HO203 := zO t193 t194 HI0 HO203 hk; replace HK := zKK HK hk; replace HB := Aside0.mk (hb); replace HI0 := Aside0.mk (hi); (try clear hb); (try clear hk); (try clear hi); have hnb52 := NB191_166.out; have hnc52 := NB166_191.out; have hnb53 := NB191_0.out; have hnc53 := NB0_191.out; have ⟨hcz54_0, hcz54_1, hcz54_2, hcz54_3, hcz54_4, hfz54_0⟩ := cz5 BK191; have hnb55 := NB166_0.out; have hnc55 := NB0_166.out; have ⟨hcz56_0, hcz56_1, hcz56_2, hcz56_3, hcz56_4, hfz56_0⟩ := cz5 BK166))
     refine bodyPost_ret (results_cell_row rfl _ _ gb166 32 #[.int .i64 t167, .int .i64 x192001_6, .int .i64 t204, .int .i64 t182, .int .i64 t188] (0, 0) _ rfl (by exact pW BK166) Tryz.underlying32 rfl (by kernel_rfl)) rfl ?_
     exact ⟨eB, zI HI0, zB HB HI0, zK HK⟩
    ·replace H := ifI H
     rcases H with ⟨H, -, c57b0, c57b1⟩ | ⟨H, c57, c57b0, c57b1⟩
     ·obtain ⟨y207, hy207⟩ : ∃ y_ : List Int, y_ = (([(-1), 360] : List Int)) := ⟨_, rfl⟩
      rw [← hy207] at H
      have Ny207 := Aside0.mk hy207
      clear hy207
      replace H := Option.bind_eq_some_iff.mp H
      obtain ⟨⟨t210, t211, t212⟩, A580, H⟩ := H
      (try dsimp only at H)
      have A58 := Aside0.mk A580
      clear A580
      simp only [Option.some.injEq, Prod.mk.injEq] at H
      obtain ⟨rfl, rfl, rfl, rfl, rfl, rfl, rfl⟩ := H
      go_wp2_with (first | ((with_reducible refine gC 60 ?_); refine zG (some 29) Tryz.func60 (spec_l1Cur_pick.calls g s0_0 t189 t190 40 t192 t193 t194 w0 _ (zI HI0) (zB HB HI0) A31.out) ?_; rintro e w59 ⟨rfl, hi, hb, hk⟩; refine ⟨_, rfl, ?_⟩; replace BK166 := Aside0.mk (KeepBut.blk hk (g' := gb166) (o := .cells #[.int .i64 0, .int .i64 0, .int .i64 0, .int .i64 0, .int .i64 0] 32 (0, 0)) (upK BK166.out) NB166_0.out (by simp)); replace BK191 := Aside0.mk (KeepBut.blk hk (g' := gb191) (o := .cells #[.int .i64 t167, .int .i64 x192001_6, .int .i64 t176, .int .i64 t182, .int .i64 t188] 32 (0, 0)) (upK BK191.out) NB191_0.out (by simp)); replace HK := zKK HK hk; replace HB := Aside0.mk (hb); replace HI0 := Aside0.mk (hi); (try clear hb); (try clear hk); (try clear hi)) | ((with_reducible refine gate_dst (N := 47) rfl ?_); refine Kd.R_lit (Kd.int .i64) _ 3 ?hg (N := 47) ?hd (xs := ([(-1), 360] : List Int)) (inner := [.int .i64 (-1), .int .i64 360]) (ok := fun _ => True) (okp := fun _ => True) ?hr ?hp (fun _ hk => hk) trivial (Below.refl _ _) (Nat.le_refl _) (by simp) ?_; (case hd => rfl); (case hg => rfl); (case hr => first | (go_simp; done) | (go_simp; rfl)); (case hp => exact zInts _); intro v208 w60 ho61 hb hg_ hnew_; clear hg_ hnew_; (first | rw [← Ny207.out] at ho61 | (simp only [Int.reduceToNat] at ho61; rw [← Ny207.out] at ho61)); have HO209 := Aside0.mk (Kd.R_lower ho61 (keep_size (w := w) (g := g) (row := none) (zK HK))); replace BK166 := uK BK166 hb; replace BK191 := uK BK191 hb; replace HK := zKK HK (KeepBut.of_below hb g none); replace HB := Aside0.mk (below_step (zB HB HI0) hb); replace HI0 := Aside0.mk (IsS54.below (keepF_ HI0 <| zI HI0) hb); clear hb ho61; obtain ⟨Ao62, co62, eo62⟩ := Kd.R_slice HO209.out; subst eo62) | ((with_reducible refine gC 61 ?_); refine zG (some 48) Tryz.func61 (spec_l1Cur_among.calls g s0_0 t193 t194 _ _ y207 t210 t211 t212 w0 _ (zI HI0) (zB HB HI0) (zCR HO209) ((Kd.R_reads' HO209.out).2.1) (far_slice (IsS54.own_ne HI0.out HO209.out (by decide))) A58.out) ?_; rintro e w63 ⟨rfl, hi, hb, hk⟩; refine ⟨_, rfl, ?_⟩; replace BK166 := Aside0.mk (KeepBut.blk hk (g' := gb166) (o := .cells #[.int .i64 0, .int .i64 0, .int .i64 0, .int .i64 0, .int .i64 0] 32 (0, 0)) (upK BK166.out) NB166_0.out (by simp)); replace BK191 := Aside0.mk (KeepBut.blk hk (g' := gb191) (o := .cells #[.int .i64 t167, .int .i64 x192001_6, .int .i64 t176, .int .i64 t182, .int .i64 t188] 32 (0, 0)) (upK BK191.out) NB191_0.out (by simp)); replace HO209 := zO t193 t194 HI0 HO209 hk; replace HK := zKK HK hk; replace HB := Aside0.mk (hb); replace HI0 := Aside0.mk (hi); (try clear hb); (try clear hk); (try clear hi); have hnb64 := NB191_166.out; have hnc64 := NB166_191.out; have hnb65 := NB191_0.out; have hnc65 := NB0_191.out; have ⟨hcz66_0, hcz66_1, hcz66_2, hcz66_3, hcz66_4, hfz66_0⟩ := cz5 BK191; have hnb67 := NB166_0.out; have hnc67 := NB0_166.out; have ⟨hcz68_0, hcz68_1, hcz68_2, hcz68_3, hcz68_4, hfz68_0⟩ := cz5 BK166))
      refine bodyPost_ret (results_cell_row rfl _ _ gb166 32 #[.int .i64 t167, .int .i64 x192001_6, .int .i64 t176, .int .i64 t210, .int .i64 t188] (0, 0) _ rfl (by exact pW BK166) Tryz.underlying32 rfl (by kernel_rfl)) rfl ?_
      exact ⟨eB, zI HI0, zB HB HI0, zK HK⟩
     ·replace H := ifI H
      rcases H with ⟨H, -, c69b0, c69b1⟩ | ⟨H, c69, c69b0, c69b1⟩
      ·obtain ⟨y213, hy213⟩ : ∃ y_ : List Int, y_ = (([(-91), 91] : List Int)) := ⟨_, rfl⟩
       rw [← hy213] at H
       have Ny213 := Aside0.mk hy213
       clear hy213
       replace H := Option.bind_eq_some_iff.mp H
       obtain ⟨⟨t216, t217, t218⟩, A700, H⟩ := H
       (try dsimp only at H)
       have A70 := Aside0.mk A700
       clear A700
       simp only [Option.some.injEq, Prod.mk.injEq] at H
       obtain ⟨rfl, rfl, rfl, rfl, rfl, rfl, rfl⟩ := H
       go_wp2_with (first | ((with_reducible refine gC 60 ?_); refine zG (some 29) Tryz.func60 (spec_l1Cur_pick.calls g s0_0 t189 t190 40 t192 t193 t194 w0 _ (zI HI0) (zB HB HI0) A31.out) ?_; rintro e w71 ⟨rfl, hi, hb, hk⟩; refine ⟨_, rfl, ?_⟩; replace BK166 := Aside0.mk (KeepBut.blk hk (g' := gb166) (o := .cells #[.int .i64 0, .int .i64 0, .int .i64 0, .int .i64 0, .int .i64 0] 32 (0, 0)) (upK BK166.out) NB166_0.out (by simp)); replace BK191 := Aside0.mk (KeepBut.blk hk (g' := gb191) (o := .cells #[.int .i64 t167, .int .i64 x192001_6, .int .i64 t176, .int .i64 t182, .int .i64 t188] 32 (0, 0)) (upK BK191.out) NB191_0.out (by simp)); replace HK := zKK HK hk; replace HB := Aside0.mk (hb); replace HI0 := Aside0.mk (hi); (try clear hb); (try clear hk); (try clear hi)) | ((with_reducible refine gate_dst (N := 53) rfl ?_); refine Kd.R_lit (Kd.int .i64) _ 3 ?hg (N := 53) ?hd (xs := ([(-91), 91] : List Int)) (inner := [.int .i64 (-91), .int .i64 91]) (ok := fun _ => True) (okp := fun _ => True) ?hr ?hp (fun _ hk => hk) trivial (Below.refl _ _) (Nat.le_refl _) (by simp) ?_; (case hd => rfl); (case hg => rfl); (case hr => first | (go_simp; done) | (go_simp; rfl)); (case hp => exact zInts _); intro v214 w72 ho73 hb hg_ hnew_; clear hg_ hnew_; (first | rw [← Ny213.out] at ho73 | (simp only [Int.reduceToNat] at ho73; rw [← Ny213.out] at ho73)); have HO215 := Aside0.mk (Kd.R_lower ho73 (keep_size (w := w) (g := g) (row := none) (zK HK))); replace BK166 := uK BK166 hb; replace BK191 := uK BK191 hb; replace HK := zKK HK (KeepBut.of_below hb g none); replace HB := Aside0.mk (below_step (zB HB HI0) hb); replace HI0 := Aside0.mk (IsS54.below (keepF_ HI0 <| zI HI0) hb); clear hb ho73; obtain ⟨Ao74, co74, eo74⟩ := Kd.R_slice HO215.out; subst eo74) | ((with_reducible refine gC 61 ?_); refine zG (some 54) Tryz.func61 (spec_l1Cur_among.calls g s0_0 t193 t194 _ _ y213 t216 t217 t218 w0 _ (zI HI0) (zB HB HI0) (zCR HO215) ((Kd.R_reads' HO215.out).2.1) (far_slice (IsS54.own_ne HI0.out HO215.out (by decide))) A70.out) ?_; rintro e w75 ⟨rfl, hi, hb, hk⟩; refine ⟨_, rfl, ?_⟩; replace BK166 := Aside0.mk (KeepBut.blk hk (g' := gb166) (o := .cells #[.int .i64 0, .int .i64 0, .int .i64 0, .int .i64 0, .int .i64 0] 32 (0, 0)) (upK BK166.out) NB166_0.out (by simp)); replace BK191 := Aside0.mk (KeepBut.blk hk (g' := gb191) (o := .cells #[.int .i64 t167, .int .i64 x192001_6, .int .i64 t176, .int .i64 t182, .int .i64 t188] 32 (0, 0)) (upK BK191.out) NB191_0.out (by simp)); replace HO215 := zO t193 t194 HI0 HO215 hk; replace HK := zKK HK hk; replace HB := Aside0.mk (hb); replace HI0 := Aside0.mk (hi); (try clear hb); (try clear hk); (try clear hi); have hnb76 := NB191_166.out; have hnc76 := NB166_191.out; have hnb77 := NB191_0.out; have hnc77 := NB0_191.out; have ⟨hcz78_0, hcz78_1, hcz78_2, hcz78_3, hcz78_4, hfz78_0⟩ := cz5 BK191; have hnb79 := NB166_0.out; have hnc79 := NB0_166.out; have ⟨hcz80_0, hcz80_1, hcz80_2, hcz80_3, hcz80_4, hfz80_0⟩ := cz5 BK166))
       refine bodyPost_ret (results_cell_row rfl _ _ gb166 32 #[.int .i64 t167, .int .i64 x192001_6, .int .i64 t176, .int .i64 t182, .int .i64 t216] (0, 0) _ rfl (by exact pW BK166) Tryz.underlying32 rfl (by kernel_rfl)) rfl ?_
       exact ⟨eB, zI HI0, zB HB HI0, zK HK⟩
      ·simp only [Option.some.injEq, Prod.mk.injEq] at H
       obtain ⟨rfl, rfl, rfl, rfl, rfl, rfl, rfl⟩ := H
       go_wp2_with (first | ((with_reducible refine gC 60 ?_); refine zG (some 29) Tryz.func60 (spec_l1Cur_pick.calls g s0_0 t189 t190 40 t192 t193 t194 w0 _ (zI HI0) (zB HB HI0) A31.out) ?_; rintro e w81 ⟨rfl, hi, hb, hk⟩; refine ⟨_, rfl, ?_⟩; replace BK166 := Aside0.mk (KeepBut.blk hk (g' := gb166) (o := .cells #[.int .i64 0, .int .i64 0, .int .i64 0, .int .i64 0, .int .i64 0] 32 (0, 0)) (upK BK166.out) NB166_0.out (by simp)); replace BK191 := Aside0.mk (KeepBut.blk hk (g' := gb191) (o := .cells #[.int .i64 t167, .int .i64 x192001_6, .int .i64 t176, .int .i64 t182, .int .i64 t188] 32 (0, 0)) (upK BK191.out) NB191_0.out (by simp)); replace HK := zKK HK hk; replace HB := Aside0.mk (hb); replace HI0 := Aside0.mk (hi); (try clear hb); (try clear hk); (try clear hi); have hnb82 := NB191_166.out; have hnc82 := NB166_191.out; have hnb83 := NB191_0.out; have hnc83 := NB0_191.out; have ⟨hcz84_0, hcz84_1, hcz84_2, hcz84_3, hcz84_4, hfz84_0⟩ := cz5 BK191; have hnb85 := NB166_0.out; have hnc85 := NB0_166.out; have ⟨hcz86_0, hcz86_1, hcz86_2, hcz86_3, hcz86_4, hfz86_0⟩ := cz5 BK166))
       refine bodyPost_ret (results_cell_row rfl _ _ gb166 32 #[.int .i64 t167, .int .i64 x192001_6, .int .i64 t176, .int .i64 t182, .int .i64 t188] (0, 0) _ rfl (by exact pW BK166) Tryz.underlying32 rfl (by kernel_rfl)) rfl ?_
       exact ⟨eB, zI HI0, zB HB HI0, zK HK⟩

end Go.Proofs.YtmfidodcpbochaaGreat.QFnSteps
