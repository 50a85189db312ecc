/- Contracts of Go functions that FnTrips reaches: the call computes what the plain function says. No condition. -/
import Derived.Test.YtmeaacbnjpgepaaQFnTripsx0
import Derived.Test.YtmeaacbnjpgepaaQFnTripsx2
namespace Go.Proofs.Ytmeaacbnjpgepaa.QFnTrips
open Go.RowKit Go.Proofs.YtmeaacbnjpgepaaW.PrintWords Go.Proofs.YtmeaacbnjpgepaaW.PrintLast Go.Proofs.YtmeaacbnjpgepaaW.PrintMore
attribute [local go_sem] max2_int min2_int max_two min_two max_three min_three max_four min_four   -- for this text's walks alone
set_option linter.unusedVariables false
set_option linter.unusedSimpArgs false

/-! ### impl_IsTrip: function 13 -/
mutual
def impl_IsTrip.j0 : Nat → Bool → Int → Int → Int → Int → Int → Option (Bool)
 | 0, _, _, _, _, _, _ => none
 | k + 1, x18, x114000, x114001, x114002, x114003, x114004 => if x18 = true then (some false) else (if x114000 = 0 then (impl_IsTrip.j1 k x114000 (x114000 == 0) x114000 x114001 x114002 x114003 x114004) else (if x114000 = 4 then (impl_IsTrip.j1 k x114000 (x114000 == 4) x114000 x114001 x114002 x114003 x114004) else (impl_IsTrip.j1 k x114000 (x114000 == 5) x114000 x114001 x114002 x114003 x114004)))
def impl_IsTrip.j1 : Nat → Int → Bool → Int → Int → Int → Int → Int → Option (Bool)
 | 0, _, _, _, _, _, _, _ => none
 | k + 1, x20, x21, x114000, x114001, x114002, x114003, x114004 => if x21 = true then (some (x114002 == 0)) else (if x20 = 1 then ((impl_within.f x114002 1 x114001).bind fun t117 => (if t117 = true then (some (decide (x114004 ≤ x114003))) else (some false))) else (if x20 = 2 then ((impl_within.f x114002 1 x114001).bind fun t118 => (if t118 = true then (some (decide (x114004 > x114003))) else (some false))) else (if x20 = 3 then ((impl_within.f x114002 1 x114001).bind fun t119 => (if t119 = true then (some (decide (x114004 > x114003))) else (some false))) else (some false))))
end
def impl_IsTrip.f (k : Nat) (a0_0 a0_1 a0_2 a0_3 a0_4 : Int) : Option (Bool) := (impl_within.f a0_1 1 12).bind fun t114 => (if t114 = true then ((impl_isTime.f a0_3).bind fun t115 => (if t115 = true then ((impl_isTime.f a0_4).bind fun t116 => (impl_IsTrip.j0 k (!t116) a0_0 a0_1 a0_2 a0_3 a0_4)) else (impl_IsTrip.j0 k true a0_0 a0_1 a0_2 a0_3 a0_4))) else (impl_IsTrip.j0 k true a0_0 a0_1 a0_2 a0_3 a0_4))
theorem impl_IsTrip.mono_l : ∀ k, (∀ y0 y1 y2 y3 y4 y5, LeO (impl_IsTrip.j0 k y0 y1 y2 y3 y4 y5) (impl_IsTrip.j0 (k + 1) y0 y1 y2 y3 y4 y5)) ∧ (∀ y0 y1 y2 y3 y4 y5 y6, LeO (impl_IsTrip.j1 k y0 y1 y2 y3 y4 y5 y6) (impl_IsTrip.j1 (k + 1) y0 y1 y2 y3 y4 y5 y6))
 | 0 => ⟨fun _ _ _ _ _ _ r h => by simp [impl_IsTrip.j0] at h, fun _ _ _ _ _ _ _ r h => by simp [impl_IsTrip.j1] at h⟩
 | k + 1 => by
  obtain ⟨ih0, ih1⟩ := impl_IsTrip.mono_l k
  refine ⟨?_, ?_⟩
  ·intro y0 y1 y2 y3 y4 y5
   unfold impl_IsTrip.j0
   repeat' with_reducible first | apply ih0 | apply ih1 | exact LeO.refl _ | exact LeO.none _ | refine LeO.ite ?_ ?_ | refine LeO.bind ?_ (fun _ => ?_)
  ·intro y0 y1 y2 y3 y4 y5 y6
   unfold impl_IsTrip.j1
   repeat' with_reducible first | apply ih0 | apply ih1 | exact LeO.refl _ | exact LeO.none _ | refine LeO.ite ?_ ?_ | refine LeO.bind ?_ (fun _ => ?_)
theorem impl_IsTrip.mono : ∀ a0 a1 a2 a3 a4 k, LeO (impl_IsTrip.f k a0 a1 a2 a3 a4) (impl_IsTrip.f (k + 1) a0 a1 a2 a3 a4) := by
 intro a0 a1 a2 a3 a4 k
 obtain ⟨ih0, ih1⟩ := impl_IsTrip.mono_l k
 unfold impl_IsTrip.f
 repeat' with_reducible first | apply ih0 | apply ih1 | exact LeO.refl _ | exact LeO.none _ | refine LeO.ite ?_ ?_ | refine LeO.bind ?_ (fun _ => ?_)
set_option maxHeartbeats 8000000 in
set_option maxRecDepth 100000 in
theorem impl_IsTrip.calls (k : Nat) (a0_0 a0_1 a0_2 a0_3 a0_4 : Int) (r : Bool) (w : World) (h : impl_IsTrip.f k a0_0 a0_1 a0_2 a0_3 a0_4 = some r) :
  Calls Try.prog 13 #[.agg #[.int .i64 a0_0, .int .i64 a0_1, .int .i64 a0_2, .int .i64 a0_3, .int .i64 a0_4]] w fun e w' => e = .returned (.bool r) ∧ Below w.heap.size w w' := by
 have hu25 := Try.underlying25
 have HB := Aside0.mk (Below.refl w.heap.size w)
 have H := h
 clear h
 unfold impl_IsTrip.f at H
 have HC2 := Aside0.mk H
 clear H
 go_enter Try.func13, Try.ntmps13
 go_upto_region 1 with (first | ((with_reducible refine gD 1 ?_); refine bxE 1 25 #[.int .i64 a0_0, .int .i64 a0_1, .int .i64 a0_2, .int .i64 a0_3, .int .i64 a0_4] fun gb113 w3 hg hbox hb => ?_; have BK113 := Aside0.mk hbox; have GE113 := gB HB hg; replace HB := uB HB hb; clear hb hbox hg))
 (try simp only [Act.put, List.setIfInBounds_toArray, List.set_cons_zero, List.set_cons_succ])
 go_cut [18] (fun v18 wc => ∃ (kq : Nat) (x18_1 : Bool), v18 = .bool x18_1 ∧ Aside0 (impl_IsTrip.j0 kq x18_1 a0_0 a0_1 a0_2 a0_3 a0_4 = some r) ∧ Aside0 (kq ≤ k) ∧ Aside0 (wc.heap[gb113]? = some (.cells #[.int .i64 a0_0, .int .i64 a0_1, .int .i64 a0_2, .int .i64 a0_3, .int .i64 a0_4] 25 (0, 0))) ∧ Aside0 (Below w.heap.size w wc))
 case first =>
  have H := HC2.out
  clear HC2
  replace H := bA H
  obtain ⟨t114, A4, H⟩ := H
  rcases Bool.eq_false_or_eq_true t114 with rfl | rfl
  ·replace H := iT rfl H
   replace H := bA H
   obtain ⟨t115, A6, H⟩ := H
   rcases Bool.eq_false_or_eq_true t115 with rfl | rfl
   ·replace H := iT rfl H
    replace H := bA H
    obtain ⟨t116, A8, H⟩ := H
    have H' := Aside0.mk H
    clear H
    have ⟨hcz9_0, hcz9_1, hcz9_2, hcz9_3, hcz9_4, hfz9_0⟩ := cz5 BK113
    go_wp2_with (first | ((with_reducible refine gC 46 ?_); refine lA (some 5) Try.func46 (impl_within.calls a0_1 1 12 true _ A4.out) ?_; rintro _ ⟨nd, rfl⟩) | (go_at_call 47; (with_reducible refine (impl_isTime.calls a0_3 true _ A6.out).mono ?_); rintro e w' ⟨rfl, ⟨nd, rfl⟩⟩) | (go_at_call 47; (with_reducible refine (impl_isTime.calls a0_4 t116 _ A8.out).mono ?_); rintro e w' ⟨rfl, ⟨nd, rfl⟩⟩))
    go_meet
    case rel => exact ⟨_, (!t116), rB, H', leB, (aK BK113), (aB HB)⟩
   ·replace H := iF (by decide) H
    have H' := Aside0.mk H
    clear H
    have ⟨hcz10_0, hcz10_1, hcz10_2, hcz10_3, hcz10_4, hfz10_0⟩ := cz5 BK113
    go_wp2_with (first | ((with_reducible refine gC 46 ?_); refine lA (some 5) Try.func46 (impl_within.calls a0_1 1 12 true _ A4.out) ?_; rintro _ ⟨nd, rfl⟩) | (go_at_call 47; (with_reducible refine (impl_isTime.calls a0_3 false _ A6.out).mono ?_); rintro e w' ⟨rfl, ⟨nd, rfl⟩⟩))
    go_meet
    case rel => exact ⟨_, (true), rB, H', leB, (aK BK113), (aB HB)⟩
  ·replace H := iF (by decide) H
   have H' := Aside0.mk H
   clear H
   have ⟨hcz11_0, hcz11_1, hcz11_2, hcz11_3, hcz11_4, hfz11_0⟩ := cz5 BK113
   go_wp2_with (first | ((with_reducible refine gC 46 ?_); refine lA (some 5) Try.func46 (impl_within.calls a0_1 1 12 false _ A4.out) ?_; rintro _ ⟨nd, rfl⟩))
   go_meet
   case rel => exact ⟨_, (true), rB, H', leB, (aK BK113), (aB HB)⟩
 case rest =>
  clear HC2
  obtain ⟨kq, x18_1, rfl, HA, HJ1, BK113, HB⟩ := hcut
  cases kq with
  | zero => exact absurd HA.out (by simp [impl_IsTrip.j0])
  | succ kj1 =>
   have H := HA.out
   clear HA
   simp only [impl_IsTrip.j0] at H
   rcases Bool.eq_false_or_eq_true x18_1 with rfl | rfl
   ·replace H := iT rfl H
    obtain rfl := Option.some.inj H
    go_wp2
    go_ret
    exact ⟨eB, (bW HB)⟩
   ·replace H := iF (by decide) H
    have HC13 := Aside0.mk H
    clear H
    have ⟨hcz14_0, hcz14_1, hcz14_2, hcz14_3, hcz14_4, hfz14_0⟩ := cz5 BK113
    go_upto_if 21 with (fail)
    go_cut [21] (fun v21 wc => ∃ (kq : Nat) (x21_12 : Bool), v21 = .bool x21_12 ∧ Aside0 (impl_IsTrip.j1 kq a0_0 x21_12 a0_0 a0_1 a0_2 a0_3 a0_4 = some r) ∧ Aside0 (kq ≤ kj1) ∧ Aside0 (wc.heap[gb113]? = some (.cells #[.int .i64 a0_0, .int .i64 a0_1, .int .i64 a0_2, .int .i64 a0_3, .int .i64 a0_4] 25 (0, 0))) ∧ Aside0 (Below w.heap.size w wc))
    case first =>
     have H := HC13.out
     clear HC13
     replace H := ifI H
     rcases H with ⟨H, -, c15b0, c15b1⟩ | ⟨H, c15, c15b0, c15b1⟩
     ·(first | rw [c15b0] | (simp only [i64_w, i32_w]; rw [c15b0]) | skip)
      have H' := Aside0.mk H
      clear H
      go_wp2
      go_meet
      case rel => exact ⟨_, ((a0_0 == 0)), rB, H', ⟨by have := HJ1.out; first | omega | exact Nat.le_refl _⟩, (aK BK113), (aB HB)⟩
     ·(first | rw [c15b0] | (simp only [i64_w, i32_w]; rw [c15b0]) | skip)
      replace H := ifI H
      rcases H with ⟨H, -, c16b0, c16b1⟩ | ⟨H, c16, c16b0, c16b1⟩
      ·have H' := Aside0.mk H
       clear H
       go_wp2
       go_meet
       case rel => exact ⟨_, ((a0_0 == 4)), rB, H', ⟨by have := HJ1.out; first | omega | exact Nat.le_refl _⟩, (aK BK113), (aB HB)⟩
      ·have H' := Aside0.mk H
       clear H
       go_wp2
       go_meet
       case rel => exact ⟨_, ((a0_0 == 5)), rB, H', ⟨by have := HJ1.out; first | omega | exact Nat.le_refl _⟩, (aK BK113), (aB HB)⟩
    case rest =>
     clear HC13
     try clear hcz14_0
     try clear hcz14_1
     try clear hcz14_2
     try clear hcz14_3
     try clear hcz14_4
     try clear hfz14_0
     obtain ⟨kq, x21_12, rfl, HA, HJ12, BK113, HB⟩ := hcut
     cases kq with
     | zero => exact absurd HA.out (by simp [impl_IsTrip.j1])
     | succ kj12 =>
      have H := HA.out
      clear HA
      simp only [impl_IsTrip.j1] at H
      rcases Bool.eq_false_or_eq_true x21_12 with rfl | rfl
      ·replace H := iT rfl H
       obtain rfl := Option.some.inj H
       have ⟨hcz18_0, hcz18_1, hcz18_2, hcz18_3, hcz18_4, hfz18_0⟩ := cz5 BK113
       go_wp2
       go_ret
       exact ⟨eB, (bW HB)⟩
      ·replace H := iF (by decide) H
       replace H := ifI H
       rcases H with ⟨H, -, c19b0, c19b1⟩ | ⟨H, c19, c19b0, c19b1⟩
       ·replace H := bA H
        obtain ⟨t117, A20, H⟩ := H
        rcases Bool.eq_false_or_eq_true t117 with rfl | rfl
        ·replace H := iT rfl H
         obtain rfl := Option.some.inj H
         have ⟨hcz22_0, hcz22_1, hcz22_2, hcz22_3, hcz22_4, hfz22_0⟩ := cz5 BK113
         go_wp2_with (first | ((with_reducible refine gC 46 ?_); refine lA (some 34) Try.func46 (impl_within.calls a0_2 1 a0_1 true _ A20.out) ?_; rintro _ ⟨nd, rfl⟩))
         go_ret
         exact ⟨eB, (bW HB)⟩
        ·replace H := iF (by decide) H
         obtain rfl := Option.some.inj H
         have ⟨hcz23_0, hcz23_1, hcz23_2, hcz23_3, hcz23_4, hfz23_0⟩ := cz5 BK113
         go_wp2_with (first | ((with_reducible refine gC 46 ?_); refine lA (some 34) Try.func46 (impl_within.calls a0_2 1 a0_1 false _ A20.out) ?_; rintro _ ⟨nd, rfl⟩))
         go_ret
         exact ⟨eB, (bW HB)⟩
       ·replace H := ifI H
        rcases H with ⟨H, -, c24b0, c24b1⟩ | ⟨H, c24, c24b0, c24b1⟩
        ·replace H := bA H
         obtain ⟨t118, A25, H⟩ := H
         rcases Bool.eq_false_or_eq_true t118 with rfl | rfl
         ·replace H := iT rfl H
          obtain rfl := Option.some.inj H
          have ⟨hcz27_0, hcz27_1, hcz27_2, hcz27_3, hcz27_4, hfz27_0⟩ := cz5 BK113
          go_wp2_with (first | ((with_reducible refine gC 46 ?_); refine lA (some 49) Try.func46 (impl_within.calls a0_2 1 a0_1 true _ A25.out) ?_; rintro _ ⟨nd, rfl⟩))
          go_ret
          exact ⟨eB, (bW HB)⟩
         ·replace H := iF (by decide) H
          obtain rfl := Option.some.inj H
          have ⟨hcz28_0, hcz28_1, hcz28_2, hcz28_3, hcz28_4, hfz28_0⟩ := cz5 BK113
          go_wp2_with (first | ((with_reducible refine gC 46 ?_); refine lA (some 49) Try.func46 (impl_within.calls a0_2 1 a0_1 false _ A25.out) ?_; rintro _ ⟨nd, rfl⟩))
          go_ret
          exact ⟨eB, (bW HB)⟩
        ·replace H := ifI H
         rcases H with ⟨H, -, c29b0, c29b1⟩ | ⟨H, c29, c29b0, c29b1⟩
         ·replace H := bA H
          obtain ⟨t119, A30, H⟩ := H
          rcases Bool.eq_false_or_eq_true t119 with rfl | rfl
          ·replace H := iT rfl H
           obtain rfl := Option.some.inj H
           have ⟨hcz32_0, hcz32_1, hcz32_2, hcz32_3, hcz32_4, hfz32_0⟩ := cz5 BK113
           go_wp2_with (first | ((with_reducible refine gC 46 ?_); refine lA (some 49) Try.func46 (impl_within.calls a0_2 1 a0_1 true _ A30.out) ?_; rintro _ ⟨nd, rfl⟩))
           go_ret
           exact ⟨eB, (bW HB)⟩
          ·replace H := iF (by decide) H
           obtain rfl := Option.some.inj H
           have ⟨hcz33_0, hcz33_1, hcz33_2, hcz33_3, hcz33_4, hfz33_0⟩ := cz5 BK113
           go_wp2_with (first | ((with_reducible refine gC 46 ?_); refine lA (some 49) Try.func46 (impl_within.calls a0_2 1 a0_1 false _ A30.out) ?_; rintro _ ⟨nd, rfl⟩))
           go_ret
           exact ⟨eB, (bW HB)⟩
         ·obtain rfl := Option.some.inj H
          go_wp2
          go_ret
          exact ⟨eB, (bW HB)⟩

/-! ### spec_l1Most: function 49 -/
def spec_l1Most.f (a0 a1 : Int) : Option (Int) := if a0 > a1 then (some a0) else (some a1)
set_option maxHeartbeats 8000000 in
set_option maxRecDepth 100000 in
theorem spec_l1Most.calls (a0 a1 r : Int) (w : World) (h : spec_l1Most.f a0 a1 = some r) :
  Calls Try.prog 49 #[.int .i64 a0, .int .i64 a1] w fun e w' => e = .returned (.int .i64 r) ∧ Drawn0 w w' := by
 have H : (if a0 > a1 then (some a0) else (some a1)) = some r := h
 clear h
 replace H := ifD H
 rcases H with ⟨H, -, c3b0⟩ | ⟨H, -, c3b0⟩
 ·obtain rfl := Option.some.inj H
  go_enter Try.func49, Try.ntmps49
  go_wp2
  go_ret
  exact ⟨rB, by repeat (first | exact Drawn0.refl _ | apply Drawn0.step)⟩
 ·obtain rfl := Option.some.inj H
  go_enter Try.func49, Try.ntmps49
  go_wp2
  go_ret
  exact ⟨rB, by repeat (first | exact Drawn0.refl _ | apply Drawn0.step)⟩

/-! ### spec_TimeLeft: function 14 -/
def spec_TimeLeft.f (k : Nat) (a0_0 a0_1 a0_2 a0_3 a0_4 : Int) : Option (Int × Bool) := (spec_l21Good.f k a0_0 a0_1 a0_2 a0_3 a0_4).bind fun t121 => (if t121 = true then ((spec_l21In.f a0_0).bind fun t122 => (if t122 = true then ((spec_l1Most.f 0 (wrap64 (a0_3 - a0_4))).bind fun t123 => (some (t123, true))) else (some (0, false)))) else (some (0, false)))
theorem spec_TimeLeft.mono : ∀ a0 a1 a2 a3 a4 k, LeO (spec_TimeLeft.f k a0 a1 a2 a3 a4) (spec_TimeLeft.f (k + 1) a0 a1 a2 a3 a4) := by
 intro a0 a1 a2 a3 a4 k
 unfold spec_TimeLeft.f
 repeat' with_reducible first | apply spec_l21Good.mono | exact LeO.refl _ | exact LeO.none _ | refine LeO.ite ?_ ?_ | refine LeO.bind ?_ (fun _ => ?_)
set_option maxHeartbeats 8000000 in
set_option maxRecDepth 100000 in
theorem spec_TimeLeft.calls (k : Nat) (a0_0 a0_1 a0_2 a0_3 a0_4 r1 : Int) (r2 : Bool) (w : World) (h : spec_TimeLeft.f k a0_0 a0_1 a0_2 a0_3 a0_4 = some (r1, r2)) :
  Calls Try.prog 14 #[.agg #[.int .i64 a0_0, .int .i64 a0_1, .int .i64 a0_2, .int .i64 a0_3, .int .i64 a0_4]] w fun e w' => e = .returned (.tuple #[.int .i64 r1, .bool r2]) ∧ Below w.heap.size w w' := by
 have hu25 := Try.underlying25
 have HB := Aside0.mk (Below.refl w.heap.size w)
 have H := h
 clear h
 unfold spec_TimeLeft.f at H
 replace H := bA H
 obtain ⟨t121, A2, H⟩ := H
 rcases Bool.eq_false_or_eq_true t121 with rfl | rfl
 ·replace H := iT rfl H
  replace H := bA H
  obtain ⟨t122, A4, H⟩ := H
  rcases Bool.eq_false_or_eq_true t122 with rfl | rfl
  ·replace H := iT rfl H
   replace H := bA H
   obtain ⟨t123, A6, H⟩ := H
   simp only [Option.some.injEq, Prod.mk.injEq] at H
   obtain ⟨rfl, rfl⟩ := H
   go_enter Try.func14, Try.ntmps14
   go_wp2_with (first | ((with_reducible refine gD 1 ?_); refine bxE 1 25 #[.int .i64 a0_0, .int .i64 a0_1, .int .i64 a0_2, .int .i64 a0_3, .int .i64 a0_4] fun gb120 w7 hg hbox hb => ?_; have BK120 := Aside0.mk hbox; have GE120 := gB HB hg; replace HB := uB HB hb; clear hb hbox hg; have ⟨hcz8_0, hcz8_1, hcz8_2, hcz8_3, hcz8_4, hfz8_0⟩ := cz5 BK120) | ((with_reducible refine gC 45 ?_); refine lA (some 5) Try.func45 (spec_l21Good.calls k a0_0 a0_1 a0_2 a0_3 a0_4 true _ A2.out) ?_; intro w9 hb; replace BK120 := uK BK120 hb; replace HB := uB HB hb; (try clear hb); have ⟨hcz10_0, hcz10_1, hcz10_2, hcz10_3, hcz10_4, hfz10_0⟩ := cz5 BK120) | (go_at_call 48; (with_reducible refine (spec_l21In.calls a0_0 true _ A4.out).mono ?_); rintro e w' ⟨rfl, ⟨nd, rfl⟩⟩) | ((with_reducible refine gC 49 ?_); refine lA (some 18) Try.func49 (spec_l1Most.calls 0 (wrap64 (a0_3 - a0_4)) t123 _ A6.out) ?_; rintro _ ⟨nd, rfl⟩))
   go_ret2
   exact ⟨eB, (bW HB)⟩
  ·replace H := iF (by decide) H
   simp only [Option.some.injEq, Prod.mk.injEq] at H
   obtain ⟨rfl, rfl⟩ := H
   go_enter Try.func14, Try.ntmps14
   go_wp2_with (first | ((with_reducible refine gD 1 ?_); refine bxE 1 25 #[.int .i64 a0_0, .int .i64 a0_1, .int .i64 a0_2, .int .i64 a0_3, .int .i64 a0_4] fun gb120 w11 hg hbox hb => ?_; have BK120 := Aside0.mk hbox; have GE120 := gB HB hg; replace HB := uB HB hb; clear hb hbox hg; have ⟨hcz12_0, hcz12_1, hcz12_2, hcz12_3, hcz12_4, hfz12_0⟩ := cz5 BK120) | ((with_reducible refine gC 45 ?_); refine lA (some 5) Try.func45 (spec_l21Good.calls k a0_0 a0_1 a0_2 a0_3 a0_4 true _ A2.out) ?_; intro w13 hb; replace BK120 := uK BK120 hb; replace HB := uB HB hb; (try clear hb); have ⟨hcz14_0, hcz14_1, hcz14_2, hcz14_3, hcz14_4, hfz14_0⟩ := cz5 BK120) | (go_at_call 48; (with_reducible refine (spec_l21In.calls a0_0 false _ A4.out).mono ?_); rintro e w' ⟨rfl, ⟨nd, rfl⟩⟩))
   go_ret2
   exact ⟨eB, (bW HB)⟩
 ·replace H := iF (by decide) H
  simp only [Option.some.injEq, Prod.mk.injEq] at H
  obtain ⟨rfl, rfl⟩ := H
  go_enter Try.func14, Try.ntmps14
  go_wp2_with (first | ((with_reducible refine gD 1 ?_); refine bxE 1 25 #[.int .i64 a0_0, .int .i64 a0_1, .int .i64 a0_2, .int .i64 a0_3, .int .i64 a0_4] fun gb120 w15 hg hbox hb => ?_; have BK120 := Aside0.mk hbox; have GE120 := gB HB hg; replace HB := uB HB hb; clear hb hbox hg; have ⟨hcz16_0, hcz16_1, hcz16_2, hcz16_3, hcz16_4, hfz16_0⟩ := cz5 BK120) | ((with_reducible refine gC 45 ?_); refine lA (some 5) Try.func45 (spec_l21Good.calls k a0_0 a0_1 a0_2 a0_3 a0_4 false _ A2.out) ?_; intro w17 hb; replace BK120 := uK BK120 hb; replace HB := uB HB hb; (try clear hb)))
  go_ret2
  exact ⟨eB, (bW HB)⟩

/-! ### impl_TimeLeft: function 15 -/
def impl_TimeLeft.f (k : Nat) (a0_0 a0_1 a0_2 a0_3 a0_4 : Int) : Option (Int × Bool) := (impl_IsTrip.f k a0_0 a0_1 a0_2 a0_3 a0_4).bind fun t125 => (if t125 = true then ((impl_within.f a0_0 1 3).bind fun t126 => (if t126 = true then (some (mx (wrap64 (a0_3 - a0_4)) 0, true)) else (some (0, false)))) else (some (0, false)))
theorem impl_TimeLeft.mono : ∀ a0 a1 a2 a3 a4 k, LeO (impl_TimeLeft.f k a0 a1 a2 a3 a4) (impl_TimeLeft.f (k + 1) a0 a1 a2 a3 a4) := by
 intro a0 a1 a2 a3 a4 k
 unfold impl_TimeLeft.f
 repeat' with_reducible first | apply impl_IsTrip.mono | exact LeO.refl _ | exact LeO.none _ | refine LeO.ite ?_ ?_ | refine LeO.bind ?_ (fun _ => ?_)
set_option maxHeartbeats 8000000 in
set_option maxRecDepth 100000 in
theorem impl_TimeLeft.calls (k : Nat) (a0_0 a0_1 a0_2 a0_3 a0_4 r1 : Int) (r2 : Bool) (w : World) (h : impl_TimeLeft.f k a0_0 a0_1 a0_2 a0_3 a0_4 = some (r1, r2)) :
  Calls Try.prog 15 #[.agg #[.int .i64 a0_0, .int .i64 a0_1, .int .i64 a0_2, .int .i64 a0_3, .int .i64 a0_4]] w fun e w' => e = .returned (.tuple #[.int .i64 r1, .bool r2]) ∧ Below w.heap.size w w' := by
 have hu25 := Try.underlying25
 have HB := Aside0.mk (Below.refl w.heap.size w)
 have H := h
 clear h
 unfold impl_TimeLeft.f at H
 replace H := bA H
 obtain ⟨t125, A2, H⟩ := H
 rcases Bool.eq_false_or_eq_true t125 with rfl | rfl
 ·replace H := iT rfl H
  replace H := bA H
  obtain ⟨t126, A4, H⟩ := H
  rcases Bool.eq_false_or_eq_true t126 with rfl | rfl
  ·replace H := iT rfl H
   obtain ⟨ji6, hji6⟩ : ∃ j_ : Int, (mx (wrap64 (a0_3 - a0_4)) 0) = j_ := ⟨_, rfl⟩
   replace H : (some (ji6, true)) = some (r1, r2) := by first | (rw [hji6] at H; exact H) | (simp only [hji6] at H ⊢; exact H)
   (try rw [hji6] at A2)
   (try rw [hji6] at A4)
   (try (have hji6l : 0 ≤ ji6 := by (rw [← hji6]; unfold mx; (repeat' split) <;> omega)))
   (try (have hji6m : 0 ≤ ji6 := by omega))
   have hji6_ : (if (wrap64 (a0_3 - a0_4)) < 0 then 0 else (wrap64 (a0_3 - a0_4))) = ji6 := hji6
   simp only [Option.some.injEq, Prod.mk.injEq] at H
   obtain ⟨rfl, rfl⟩ := H
   go_enter Try.func15, Try.ntmps15
   go_wp2_with (first | ((with_reducible refine gD 1 ?_); refine bxE 1 25 #[.int .i64 a0_0, .int .i64 a0_1, .int .i64 a0_2, .int .i64 a0_3, .int .i64 a0_4] fun gb124 w7 hg hbox hb => ?_; have BK124 := Aside0.mk hbox; have GE124 := gB HB hg; replace HB := uB HB hb; clear hb hbox hg; have ⟨hcz8_0, hcz8_1, hcz8_2, hcz8_3, hcz8_4, hfz8_0⟩ := cz5 BK124) | ((with_reducible refine gC 13 ?_); refine lA (some 5) Try.func13 (impl_IsTrip.calls k a0_0 a0_1 a0_2 a0_3 a0_4 true _ A2.out) ?_; intro w9 hb; replace BK124 := uK BK124 hb; replace HB := uB HB hb; (try clear hb); have ⟨hcz10_0, hcz10_1, hcz10_2, hcz10_3, hcz10_4, hfz10_0⟩ := cz5 BK124) | (go_at_call 46; (with_reducible refine (impl_within.calls a0_0 1 3 true _ A4.out).mono ?_); rintro e w' ⟨rfl, ⟨nd, rfl⟩⟩))
   go_ret2
   exact ⟨by first | rfl | (simp [errW_none, errW_some] <;> rfl) | (simp only [← hji6]; first | rfl | (simp [errW_none, errW_some] <;> rfl)) | (simp [*, errW_none, errW_some] <;> rfl), (bW HB)⟩
  ·replace H := iF (by decide) H
   simp only [Option.some.injEq, Prod.mk.injEq] at H
   obtain ⟨rfl, rfl⟩ := H
   go_enter Try.func15, Try.ntmps15
   go_wp2_with (first | ((with_reducible refine gD 1 ?_); refine bxE 1 25 #[.int .i64 a0_0, .int .i64 a0_1, .int .i64 a0_2, .int .i64 a0_3, .int .i64 a0_4] fun gb124 w11 hg hbox hb => ?_; have BK124 := Aside0.mk hbox; have GE124 := gB HB hg; replace HB := uB HB hb; clear hb hbox hg; have ⟨hcz12_0, hcz12_1, hcz12_2, hcz12_3, hcz12_4, hfz12_0⟩ := cz5 BK124) | ((with_reducible refine gC 13 ?_); refine lA (some 5) Try.func13 (impl_IsTrip.calls k a0_0 a0_1 a0_2 a0_3 a0_4 true _ A2.out) ?_; intro w13 hb; replace BK124 := uK BK124 hb; replace HB := uB HB hb; (try clear hb); have ⟨hcz14_0, hcz14_1, hcz14_2, hcz14_3, hcz14_4, hfz14_0⟩ := cz5 BK124) | (go_at_call 46; (with_reducible refine (impl_within.calls a0_0 1 3 false _ A4.out).mono ?_); rintro e w' ⟨rfl, ⟨nd, rfl⟩⟩))
   go_ret2
   exact ⟨eB, (bW HB)⟩
 ·replace H := iF (by decide) H
  simp only [Option.some.injEq, Prod.mk.injEq] at H
  obtain ⟨rfl, rfl⟩ := H
  go_enter Try.func15, Try.ntmps15
  go_wp2_with (first | ((with_reducible refine gD 1 ?_); refine bxE 1 25 #[.int .i64 a0_0, .int .i64 a0_1, .int .i64 a0_2, .int .i64 a0_3, .int .i64 a0_4] fun gb124 w15 hg hbox hb => ?_; have BK124 := Aside0.mk hbox; have GE124 := gB HB hg; replace HB := uB HB hb; clear hb hbox hg; have ⟨hcz16_0, hcz16_1, hcz16_2, hcz16_3, hcz16_4, hfz16_0⟩ := cz5 BK124) | ((with_reducible refine gC 13 ?_); refine lA (some 5) Try.func13 (impl_IsTrip.calls k a0_0 a0_1 a0_2 a0_3 a0_4 false _ A2.out) ?_; intro w17 hb; replace BK124 := uK BK124 hb; replace HB := uB HB hb; (try clear hb)))
  go_ret2
  exact ⟨eB, (bW HB)⟩

end Go.Proofs.Ytmeaacbnjpgepaa.QFnTrips
