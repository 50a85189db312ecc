/- Contracts of Go functions that FnTrips reaches: the call computes what the plain function says. No condition. -/
import Derived.Test.YtmeaacbnjpgepaaQFnTripsx0
import Derived.Test.YtmeaacbnjpgepaaQFnTripsx2
import Derived.Test.YtmeaacbnjpgepaaQFnTripsx4
import Derived.Test.YtmeaacbnjpgepaaQFnTripsx6
namespace Go.Proofs.Ytmeaacbnjpgepaa.QFnTrips
open Go.RowKit Go.Proofs.YtmeaacbnjpgepaaW.PrintWords Go.Proofs.YtmeaacbnjpgepaaW.PrintLast Go.Proofs.YtmeaacbnjpgepaaW.PrintMore
attribute [local go_sem] max2_int min2_int max_two min_two max_three min_three max_four min_four   -- for this text's walks alone
set_option linter.unusedVariables false
set_option linter.unusedSimpArgs false

/-! ### spec_RunTrip: function 34 -/
mutual
def spec_RunTrip.j0 : Nat → List (S49) → Bool → Int → Int → Int → Int → Int → Option (Int × Int × Int × Int × Int × Int × Bool)
 | 0, _, _, _, _, _, _, _ => none
 | k + 1, x1, x19, x205000, x205001, x205002, x205003, x205004 => if x19 = true then (some (0, 0, 0, 0, 0, 0, false)) else (spec_RunTrip.l0 k x1 0 x205000 x205001 x205002 x205003 x205004)
def spec_RunTrip.l0 : Nat → List (S49) → Int → Int → Int → Int → Int → Int → Option (Int × Int × Int × Int × Int × Int × Bool)
 | 0, _, _, _, _, _, _, _ => none
 | k + 1, x1, x7, x205000, x205001, x205002, x205003, x205004 => if x7 < (x1.length : Int) then (if 0 ≤ x7 then ((spec_l21Step.f ((rd_T49 x1 x7).f0) ((rd_T49 x1 x7).f1)).bind fun t208 => (if t208 = true then (spec_RunTrip.l0 k x1 (wrap64 (x7 + 1)) x205000 x205001 x205002 x205003 x205004) else (some (0, 0, 0, 0, 0, 0, false)))) else (none)) else (spec_RunTrip.l1 k x1 0 0 x205000 x205001 x205002 x205003 x205004)
def spec_RunTrip.l1 : Nat → List (S49) → Int → Int → Int → Int → Int → Int → Int → Option (Int × Int × Int × Int × Int × Int × Bool)
 | 0, _, _, _, _, _, _, _, _ => none
 | k + 1, x1, x8, x9, x205000, x205001, x205002, x205003, x205004 => if x9 < (x1.length : Int) then (if 0 ≤ x9 then ((spec_l21Make.f k x205000 x205001 x205002 x205003 x205004 ((rd_T49 x1 x9).f0) ((rd_T49 x1 x9).f1)).bind fun bt210 => (if bt210.2.2.2.2.2 = true then (spec_RunTrip.l1 k x1 (wrap64 (x8 + 1)) (wrap64 (x9 + 1)) bt210.1 bt210.2.1 bt210.2.2.1 bt210.2.2.2.1 bt210.2.2.2.2.1) else (spec_RunTrip.l1 k x1 x8 (wrap64 (x9 + 1)) x205000 x205001 x205002 x205003 x205004))) else (none)) else (some (x205000, x205001, x205002, x205003, x205004, x8, true))
end
def spec_RunTrip.f (k : Nat) (a0_0 a0_1 a0_2 a0_3 a0_4 : Int) (l1 : List (S49)) : Option (Int × Int × Int × Int × Int × Int × Bool) := (spec_l21Good.f k a0_0 a0_1 a0_2 a0_3 a0_4).bind fun t206 => (if t206 = true then (spec_RunTrip.j0 k l1 (decide ((l1.length : Int) > 20)) a0_0 a0_1 a0_2 a0_3 a0_4) else (spec_RunTrip.j0 k l1 true a0_0 a0_1 a0_2 a0_3 a0_4))
theorem spec_RunTrip.mono_l : ∀ k, (∀ y0 y1 y2 y3 y4 y5 y6, LeO (spec_RunTrip.j0 k y0 y1 y2 y3 y4 y5 y6) (spec_RunTrip.j0 (k + 1) y0 y1 y2 y3 y4 y5 y6)) ∧ (∀ y0 y1 y2 y3 y4 y5 y6, LeO (spec_RunTrip.l0 k y0 y1 y2 y3 y4 y5 y6) (spec_RunTrip.l0 (k + 1) y0 y1 y2 y3 y4 y5 y6)) ∧ (∀ y0 y1 y2 y3 y4 y5 y6 y7, LeO (spec_RunTrip.l1 k y0 y1 y2 y3 y4 y5 y6 y7) (spec_RunTrip.l1 (k + 1) y0 y1 y2 y3 y4 y5 y6 y7))
 | 0 => ⟨fun _ _ _ _ _ _ _ r h => by simp [spec_RunTrip.j0] at h, fun _ _ _ _ _ _ _ r h => by simp [spec_RunTrip.l0] at h, fun _ _ _ _ _ _ _ _ r h => by simp [spec_RunTrip.l1] at h⟩
 | k + 1 => by
  obtain ⟨ih0, ih1, ih2⟩ := spec_RunTrip.mono_l k
  refine ⟨?_, ?_, ?_⟩
  ·intro y0 y1 y2 y3 y4 y5 y6
   unfold spec_RunTrip.j0
   repeat' with_reducible first | apply ih0 | apply ih1 | apply ih2 | apply spec_l21Good.mono | apply spec_l21Make.mono | exact LeO.refl _ | exact LeO.none _ | refine LeO.ite ?_ ?_ | refine LeO.bind ?_ (fun _ => ?_)
  ·intro y0 y1 y2 y3 y4 y5 y6
   unfold spec_RunTrip.l0
   repeat' with_reducible first | apply ih0 | apply ih1 | apply ih2 | apply spec_l21Good.mono | apply spec_l21Make.mono | exact LeO.refl _ | exact LeO.none _ | refine LeO.ite ?_ ?_ | refine LeO.bind ?_ (fun _ => ?_)
  ·intro y0 y1 y2 y3 y4 y5 y6 y7
   unfold spec_RunTrip.l1
   repeat' with_reducible first | apply ih0 | apply ih1 | apply ih2 | apply spec_l21Good.mono | apply spec_l21Make.mono | exact LeO.refl _ | exact LeO.none _ | refine LeO.ite ?_ ?_ | refine LeO.bind ?_ (fun _ => ?_)
theorem spec_RunTrip.mono : ∀ a0 a1 a2 a3 a4 a5 k, LeO (spec_RunTrip.f k a0 a1 a2 a3 a4 a5) (spec_RunTrip.f (k + 1) a0 a1 a2 a3 a4 a5) := by
 intro a0 a1 a2 a3 a4 a5 k
 obtain ⟨ih0, ih1, ih2⟩ := spec_RunTrip.mono_l k
 unfold spec_RunTrip.f
 repeat' with_reducible first | apply ih0 | apply ih1 | apply ih2 | apply spec_l21Good.mono | apply spec_l21Make.mono | exact LeO.refl _ | exact LeO.none _ | refine LeO.ite ?_ ?_ | refine LeO.bind ?_ (fun _ => ?_)
def spec_RunTrip.T12 : Bool × List (List Nat × List Nat) := (true, [([], []), ([], []), ([], []), ([1, 2], [1, 2]), ([3], [3]), ([0, 4], [0, 4]), ([5], [5]), ([6], [6]), ([6], [6]), ([], []), ([9, 7, 5, 0, 1, 2, 3, 4, 5, 6, 7, 9], [7, 9]), ([8, 10, 0, 1, 2, 3, 4, 5, 6, 7, 8, 9, 10], [8])])
def spec_RunTrip.B12 : List Nat := [0, 0, 0, 6, 14, 31, 63, 127, 127, 0, 767, 2047]
theorem spec_RunTrip.tab12 : rtab .any (opsOf Try.f34 12) = spec_RunTrip.T12 := by kernel_rfl
theorem spec_RunTrip.bits12 : waitsOk spec_RunTrip.T12.2 spec_RunTrip.B12 = true := by kernel_rfl
set_option maxHeartbeats 8000000 in
set_option maxRecDepth 100000 in
theorem spec_RunTrip.calls (k : Nat) (a0_0 a0_1 a0_2 a0_3 a0_4 : Int) (A1 : Option Addr) (c1 : Nat) (l1 : List (S49)) (r1 r2 r3 r4 r5 r6 : Int) (r7 : Bool) (w : World) (hr1 : Kd.C k49 w A1 l1.length l1) (hc1 : l1.length ≤ c1) (h : spec_RunTrip.f k a0_0 a0_1 a0_2 a0_3 a0_4 l1 = some (r1, r2, r3, r4, r5, r6, r7)) :
  Calls Try.prog 34 #[.agg #[.int .i64 a0_0, .int .i64 a0_1, .int .i64 a0_2, .int .i64 a0_3, .int .i64 a0_4], .slice A1 l1.length c1] w fun e w' => e = .returned (.tuple #[.agg #[.int .i64 r1, .int .i64 r2, .int .i64 r3, .int .i64 r4, .int .i64 r5], .int .i64 r6, .bool r7]) ∧ Below w.heap.size w w' := by
 have hu25 := Try.underlying25
 have hu49 := Try.underlying49
 have HR1 := Aside0.mk hr1
 have HC1 := Aside0.mk hc1
 clear hr1 hc1
 have HB := Aside0.mk (Below.refl w.heap.size w)
 have H := h
 clear h
 unfold spec_RunTrip.f at H
 have HC3 := Aside0.mk H
 clear H
 go_enter Try.func34, Try.ntmps34
 go_upto_region 1 with (first | ((with_reducible refine gD 2 ?_); (try (refine gate_guard (by rfl) ?_; dsimp only)); refine bxE 2 25 #[.int .i64 a0_0, .int .i64 a0_1, .int .i64 a0_2, .int .i64 a0_3, .int .i64 a0_4] fun gb204 w4 hg hbox hb => ?_; have BK204 := Aside0.mk hbox; have GE204 := gB HB hg; replace HB := uB HB hb; clear hb hbox hg) | ((with_reducible refine gD 4 ?_); (try (refine gate_guard (by rfl) ?_; dsimp only)); refine bxE 4 25 #[.int .i64 0, .int .i64 0, .int .i64 0, .int .i64 0, .int .i64 0] fun gb205 w5 hg hbox hb => ?_; have BK205 := Aside0.mk hbox; have GE205 := gB HB hg; have ⟨NB204_205, NB205_204⟩ := nB BK204 hg; replace BK204 := uK BK204 hb; replace HB := uB HB hb; clear hb hbox hg))
 (try simp only [Act.put, List.setIfInBounds_toArray, List.set_cons_zero, List.set_cons_succ])
 go_cut [19] (fun v19 wc => ∃ (kq : Nat) (x19_2 : Bool), v19 = .bool x19_2 ∧ Aside0 (spec_RunTrip.j0 kq l1 x19_2 a0_0 a0_1 a0_2 a0_3 a0_4 = some (r1, r2, r3, r4, r5, r6, r7)) ∧ Aside0 (kq ≤ k) ∧ Aside0 (wc.heap[gb204]? = some (.cells #[.int .i64 a0_0, .int .i64 a0_1, .int .i64 a0_2, .int .i64 a0_3, .int .i64 a0_4] 25 (0, 0))) ∧ Aside0 (wc.heap[gb205]? = some (.cells #[.int .i64 0, .int .i64 0, .int .i64 0, .int .i64 0, .int .i64 0] 25 (0, 0))) ∧ Aside0 (Below w.heap.size w wc))
 case first =>
  have H := HC3.out
  clear HC3
  replace H := bA H
  obtain ⟨t206, A6, H⟩ := H
  rcases Bool.eq_false_or_eq_true t206 with rfl | rfl
  ·replace H := iT rfl H
   have H' := Aside0.mk H
   clear H
   have hnb8 := NB204_205.out
   have hnc8 := NB205_204.out
   have ⟨hcz9_0, hcz9_1, hcz9_2, hcz9_3, hcz9_4, hfz9_0⟩ := cz5 BK204
   go_wp2_with (first | ((with_reducible refine gC 45 ?_); refine lA (some 13) Try.func45 (spec_l21Good.calls k a0_0 a0_1 a0_2 a0_3 a0_4 true _ A6.out) ?_; intro w10 hb; replace BK204 := uK BK204 hb; replace BK205 := uK BK205 hb; replace HB := uB HB hb; (try clear hb)))
   go_meet
   case rel => exact ⟨_, (decide ((l1.length : Int) > 20)), rB, H', leB, (aK BK204), (aK BK205), (aB HB)⟩
  ·replace H := iF (by decide) H
   have H' := Aside0.mk H
   clear H
   have hnb11 := NB204_205.out
   have hnc11 := NB205_204.out
   have ⟨hcz12_0, hcz12_1, hcz12_2, hcz12_3, hcz12_4, hfz12_0⟩ := cz5 BK204
   go_wp2_with (first | ((with_reducible refine gC 45 ?_); refine lA (some 13) Try.func45 (spec_l21Good.calls k a0_0 a0_1 a0_2 a0_3 a0_4 false _ A6.out) ?_; intro w13 hb; replace BK204 := uK BK204 hb; replace BK205 := uK BK205 hb; replace HB := uB HB hb; (try clear hb)))
   go_meet
   case rel => exact ⟨_, (true), rB, H', leB, (aK BK204), (aK BK205), (aB HB)⟩
 case rest =>
  clear HC3
  try clear c1
  obtain ⟨kq, x19_2, rfl, HA, HJ2, BK204, BK205, HB⟩ := hcut
  cases kq with
  | zero => exact absurd HA.out (by simp [spec_RunTrip.j0])
  | succ kj2 =>
   have H := HA.out
   clear HA
   simp only [spec_RunTrip.j0] at H
   rcases Bool.eq_false_or_eq_true x19_2 with rfl | rfl
   ·replace H := iT rfl H
    simp only [Option.some.injEq, Prod.mk.injEq] at H
    obtain ⟨rfl, rfl, rfl, rfl, rfl, rfl, rfl⟩ := H
    have hnb15 := NB205_204.out
    have hnc15 := NB204_205.out
    have ⟨hcz16_0, hcz16_1, hcz16_2, hcz16_3, hcz16_4, hfz16_0⟩ := cz5 BK205
    go_wp2
    refine bodyPost_ret (results_ctt rfl _ _ gb205 25 #[.int .i64 0, .int .i64 0, .int .i64 0, .int .i64 0, .int .i64 0] (0, 0) _ rfl (by exact pW BK205) Try.underlying25 rfl (by kernel_rfl)) rfl ?_
    exact ⟨eB, (bW HB)⟩
   ·replace H := iF (by decide) H
    have H' := Aside0.mk H
    clear H
    go_wp2
    go_loopg [7] kj2 (fun kq v7 w' => ∃ (x7_2 x206000_2 x206001_2 x206002_2 x206003_2 x206004_2 : Int), v7 = .int .i64 x7_2 ∧ Aside0 (spec_RunTrip.l0 kq l1 x7_2 a0_0 a0_1 a0_2 a0_3 a0_4 = some (r1, r2, r3, r4, r5, r6, r7)) ∧ Aside0 (kq ≤ kj2) ∧ Aside0 (w'.heap[gb204]? = some (.cells #[.int .i64 a0_0, .int .i64 a0_1, .int .i64 a0_2, .int .i64 a0_3, .int .i64 a0_4] 25 (0, 0))) ∧ Aside0 (w'.heap[gb205]? = some (.cells #[.int .i64 x206000_2, .int .i64 x206001_2, .int .i64 x206002_2, .int .i64 x206003_2, .int .i64 x206004_2] 25 (0, 0))) ∧ Aside0 (Below w.heap.size w w'))
    case atStart => exact ⟨(0), (0), (0), (0), (0), (0), rB, H', ⟨Nat.le_refl _⟩, (aK BK204), (aK BK205), (aB HB)⟩
    case round =>
     clear H'
     try clear c1
     obtain ⟨x7_2, x206000_2, x206001_2, x206002_2, x206003_2, x206004_2, rfl, HA, HK2, BK204, BK205, HB⟩ := hrel
     cases gk with
     | zero => exact absurd HA.out (by simp [spec_RunTrip.l0])
     | succ k2 =>
      have H := HA.out
      clear HA
      simp only [spec_RunTrip.l0] at H
      replace H := ifD H
      rcases H with ⟨H, -, c17b0⟩ | ⟨H, -, c17b0⟩
      ·by_cases c18 : 0 ≤ x7_2
       ·rw [if_pos c18] at H
        have c18b0 : decide (0 ≤ x7_2) = true := decide_eq_true c18
        clear c18
        replace H := bA H
        obtain ⟨t208, A19, H⟩ := H
        rcases Bool.eq_false_or_eq_true t208 with rfl | rfl
        ·replace H := iT rfl H
         have H' := Aside0.mk H
         clear H
         have p207 : 0 ≤ (x7_2 : Int) := of_decide_eq_true asmB
         have q207 : x7_2 < (l1.length : Int) := of_decide_eq_true asmB
         obtain ⟨ad207, e207, hx207_0, hx207_1⟩ := at_T49 HR1.out x7_2 p207 q207
         cases e207
         replace hx207_0 := bx HB.out hx207_0
         replace hx207_1 := bx HB.out hx207_1
         replace p207 := eq_true p207
         replace q207 := eq_true q207
         go_wp2_with (first | ((with_reducible refine gC 55 ?_); refine lA (some 31) Try.func55 (spec_l21Step.calls ((rd_T49 l1 x7_2).f0) ((rd_T49 l1 x7_2).f1) true _ A19.out) ?_; intro w21 hb; replace BK204 := uK BK204 hb; replace BK205 := uK BK205 hb; replace HB := uB HB hb; (try clear hb)))
         go_roundg k2
         case measure => have := HJ2.out; have := HK2.out; omega
         case rel => exact ⟨(wrap64 (x7_2 + 1)), (x206000_2), (x206001_2), (x206002_2), (x206003_2), (x206004_2), rB, H', ⟨by have := HJ2.out; have := HK2.out; omega⟩, (aK BK204), (aK BK205), (aB HB)⟩
        ·replace H := iF (by decide) H
         simp only [Option.some.injEq, Prod.mk.injEq] at H
         obtain ⟨rfl, rfl, rfl, rfl, rfl, rfl, rfl⟩ := H
         have p207 : 0 ≤ (x7_2 : Int) := of_decide_eq_true asmB
         have q207 : x7_2 < (l1.length : Int) := of_decide_eq_true asmB
         obtain ⟨ad207, e207, hx207_0, hx207_1⟩ := at_T49 HR1.out x7_2 p207 q207
         cases e207
         replace hx207_0 := bx HB.out hx207_0
         replace hx207_1 := bx HB.out hx207_1
         replace p207 := eq_true p207
         replace q207 := eq_true q207
         go_wp2_with (first | ((with_reducible refine gC 55 ?_); refine lA (some 31) Try.func55 (spec_l21Step.calls ((rd_T49 l1 x7_2).f0) ((rd_T49 l1 x7_2).f1) false _ A19.out) ?_; intro w22 hb; replace BK204 := uK BK204 hb; replace BK205 := uK BK205 hb; replace HB := uB HB hb; (try clear hb); have hnb23 := NB205_204.out; have hnc23 := NB204_205.out; have ⟨hcz24_0, hcz24_1, hcz24_2, hcz24_3, hcz24_4, hfz24_0⟩ := cz5 BK205))
         refine bodyPost_ret (results_ctt rfl _ _ gb205 25 #[.int .i64 0, .int .i64 0, .int .i64 0, .int .i64 0, .int .i64 0] (0, 0) _ rfl (by exact pW BK205) Try.underlying25 rfl (by kernel_rfl)) rfl ?_
         exact ⟨eB, (bW HB)⟩
       ·rw [if_neg c18] at H
        exact absurd H (by simp)
      ·have H' := Aside0.mk H
       clear H
       go_wp2
       go_loopg [8, 9] k2 (fun kq v8 v9 w' => ∃ (x8_3 x9_3 x205000_3 x205001_3 x205002_3 x205003_3 x205004_3 : Int), v8 = .int .i64 x8_3 ∧ v9 = .int .i64 x9_3 ∧ Aside0 (spec_RunTrip.l1 kq l1 x8_3 x9_3 x205000_3 x205001_3 x205002_3 x205003_3 x205004_3 = some (r1, r2, r3, r4, r5, r6, r7)) ∧ Aside0 (kq ≤ k2) ∧ Aside0 (w'.heap[gb204]? = some (.cells #[.int .i64 x205000_3, .int .i64 x205001_3, .int .i64 x205002_3, .int .i64 x205003_3, .int .i64 x205004_3] 25 (0, 0))) ∧ Aside0 (w'.heap[gb205]? = some (.cells #[.int .i64 x206000_2, .int .i64 x206001_2, .int .i64 x206002_2, .int .i64 x206003_2, .int .i64 x206004_2] 25 (0, 0))) ∧ Aside0 (Below w.heap.size w w'))
       case atStart => exact ⟨(0), (0), (a0_0), (a0_1), (a0_2), (a0_3), (a0_4), rB, rB, H', ⟨Nat.le_refl _⟩, (aK BK204), (aK BK205), (aB HB)⟩
       case round =>
        clear H'
        try clear c1
        try clear c17b0
        obtain ⟨x8_3, x9_3, x205000_3, x205001_3, x205002_3, x205003_3, x205004_3, rfl, rfl, HA, HK3, BK204, BK205, HB⟩ := hrel
        cases gk with
        | zero => exact absurd HA.out (by simp [spec_RunTrip.l1])
        | succ k3 =>
         have H := HA.out
         clear HA
         simp only [spec_RunTrip.l1] at H
         replace H := ifD H
         rcases H with ⟨H, -, c25b0⟩ | ⟨H, -, c25b0⟩
         ·by_cases c26 : 0 ≤ x9_3
          ·rw [if_pos c26] at H
           have c26b0 : decide (0 ≤ x9_3) = true := decide_eq_true c26
           clear c26
           replace H := Option.bind_eq_some_iff.mp H
           obtain ⟨⟨t210, t211, t212, t213, t214, t215⟩, A270, H⟩ := H
           replace H : (if t215 = true then (spec_RunTrip.l1 k3 l1 (wrap64 (x8_3 + 1)) (wrap64 (x9_3 + 1)) t210 t211 t212 t213 t214) else (spec_RunTrip.l1 k3 l1 x8_3 (wrap64 (x9_3 + 1)) x205000_3 x205001_3 x205002_3 x205003_3 x205004_3)) = some (r1, r2, r3, r4, r5, r6, r7) := H
           have A27 := Aside0.mk A270
           clear A270
           rcases Bool.eq_false_or_eq_true t215 with rfl | rfl
           ·replace H := iT rfl H
            have H' := Aside0.mk H
            clear H
            try go_wp2
            replace BK204 := dK BK204
            replace BK205 := dK BK205
            replace HB := Aside0.mk (below_drew1 HB.out)
            have p209 : 0 ≤ (x9_3 : Int) := of_decide_eq_true asmB
            have q209 : x9_3 < (l1.length : Int) := of_decide_eq_true asmB
            obtain ⟨ad209, e209, hx209_0, hx209_1⟩ := at_T49 HR1.out x9_3 p209 q209
            have hw209_1 := hx209_1
            have hw209_0 := hx209_0
            cases e209
            replace hx209_0 := bx HB.out hx209_0
            replace hx209_1 := bx HB.out hx209_1
            replace p209 := eq_true p209
            replace q209 := eq_true q209
            refine sA (n := 12) (S := fun w' => w'.cell? ⟨gb204, 0, none⟩ = some (.int .i64 x205000_3) ∧ w'.cell? ⟨gb204, 1, none⟩ = some (.int .i64 x205001_3) ∧ w'.cell? ⟨gb204, 2, none⟩ = some (.int .i64 x205002_3) ∧ w'.cell? ⟨gb204, 3, none⟩ = some (.int .i64 x205003_3) ∧ w'.cell? ⟨gb204, 4, none⟩ = some (.int .i64 x205004_3) ∧ w'.cell? (ad209.add ((x9_3).toNat * 2)) = some (.int .i64 ((rd_T49 l1 x9_3).f0)) ∧ w'.cell? ⟨(ad209.add ((x9_3).toNat * 2)).block, (ad209.add ((x9_3).toNat * 2)).off + 1, none⟩ = some (.int .i64 ((rd_T49 l1 x9_3).f1))) (ds := []) spec_RunTrip.tab12 spec_RunTrip.bits12 #[false, false, false, false, false, false, false, false, false, false, false, false] ⟨cb BK204 0, cb BK204 1, cb BK204 2, cb BK204 3, cb BK204 4, (bX HB hw209_0), (bX HB hw209_1)⟩ fun hHeld HT_ HW_ => ?_
            generalize wr.drew = w29 at BK204 BK205 HB hx209_0 hx209_1 hHeld ⊢
            refine pA 1 42 HT_ ?_
            refine pA 2 43 HT_ ?_
            refine pA 3 44 HT_ ?_
            refine tA 0 41 HT_ HW_ hHeld ?_
            refine tA 4 45 HT_ HW_ hHeld ?_
            refine join_ (σ := Nat) 2 #[true, true, true, true, true, true, true, true, true, true, false, false] (fun s_ => [(46, .tuple #[.agg #[.int .i64 t210, .int .i64 t211, .int .i64 t212, .int .i64 t213, .int .i64 t214], .bool true]), (10, .pointer (some ⟨s_, 0, none⟩)), (40, .tuple #[.agg #[.int .i64 t210, .int .i64 t211, .int .i64 t212, .int .i64 t213, .int .i64 t214], .bool true]), (47, .agg #[.int .i64 t210, .int .i64 t211, .int .i64 t212, .int .i64 t213, .int .i64 t214]), (48, .bool true)]) (fun s_ w' => (w'.cell? ⟨gb204, 0, none⟩ = some (.int .i64 x205000_3) ∧ w'.cell? ⟨gb204, 1, none⟩ = some (.int .i64 x205001_3) ∧ w'.cell? ⟨gb204, 2, none⟩ = some (.int .i64 x205002_3) ∧ w'.cell? ⟨gb204, 3, none⟩ = some (.int .i64 x205003_3) ∧ w'.cell? ⟨gb204, 4, none⟩ = some (.int .i64 x205004_3) ∧ w'.cell? (ad209.add ((x9_3).toNat * 2)) = some (.int .i64 ((rd_T49 l1 x9_3).f0)) ∧ w'.cell? ⟨(ad209.add ((x9_3).toNat * 2)).block, (ad209.add ((x9_3).toNat * 2)).off + 1, none⟩ = some (.int .i64 ((rd_T49 l1 x9_3).f1))) ∧ (w'.heap[gb204]? = some (.cells #[.int .i64 x205000_3, .int .i64 x205001_3, .int .i64 x205002_3, .int .i64 x205003_3, .int .i64 x205004_3] 25 (0, 0))) ∧ (w'.heap[gb205]? = some (.cells #[.int .i64 x206000_2, .int .i64 x206001_2, .int .i64 x206002_2, .int .i64 x206003_2, .int .i64 x206004_2] 25 (0, 0))) ∧ (w'.heap[s_]? = some (.cells #[.int .i64 0, .int .i64 0, .int .i64 0, .int .i64 0, .int .i64 0] 25 (0, 0))) ∧ (w.heap.size ≤ s_) ∧ (w.heap.size ≤ s_) ∧ (gb204 ≠ s_) ∧ (s_ ≠ gb204) ∧ (gb205 ≠ s_) ∧ (s_ ≠ gb205) ∧ (Below w.heap.size w w')) ?_ ?_
            rotate_left
            ·intro hCont
             refine two_ (i := 5) (j := 9) (Ni := some 46) (Nj := some 10) #[true, true, true, true, true, true, false, false, false, false, false, false] #[true, true, true, true, true, false, false, false, false, true, false, false] rfl rfl rfl rfl (two_of HT_.out (by kernel_rfl)) (by decide) (by decide) (fun K hK => ?_) (fun K hK => ?_)
             ·skip
              refine rA Try.func52 (spec_l21Make.calls k3 x205000_3 x205001_3 x205002_3 x205003_3 x205004_3 ((rd_T49 l1 x9_3).f0) ((rd_T49 l1 x9_3).f1) t210 t211 t212 t213 t214 true _ A27.out) ?_
              intro w30 hb
              replace BK204 := uK BK204 hb
              replace BK205 := uK BK205 hb
              replace HB := uB HB hb
              (try clear hb)
              refine hK.out _ _ ⟨cb BK204 0, cb BK204 1, cb BK204 2, cb BK204 3, cb BK204 4, (bX HB hw209_0), (bX HB hw209_1)⟩ (fun hHeld => ?_)
              clear hK K
              refine nA ?_ (some 46)
              refine pA 6 40 HT_ ?_
              refine pA 7 47 HT_ ?_
              refine pA 8 48 HT_ ?_
              refine oA 9 (some 10) HT_ fun K hK => ?_
              refine box_step ?hg (N := 10) ?hd (cs := #[.int .i64 0, .int .i64 0, .int .i64 0, .int .i64 0, .int .i64 0]) (t := 25) ?hr ?_; (case hd => rfl); (case hg => rfl); (case hr => first | (go_simp; done) | (go_simp; rfl))
              intro gb216 hg w31 hbox hb
              have BK216 := Aside0.mk hbox
              have GE216 := gB HB hg
              have ⟨NB204_216, NB216_204⟩ := nB BK204 hg
              have ⟨NB205_216, NB216_205⟩ := nB BK205 hg
              replace BK204 := uK BK204 hb
              replace BK205 := uK BK205 hb
              replace HB := uB HB hb
              clear hb hbox hg
              refine hK.out _ _ ⟨cb BK204 0, cb BK204 1, cb BK204 2, cb BK204 3, cb BK204 4, (bX HB hw209_0), (bX HB hw209_1)⟩ (fun hHeld => ?_)
              clear hK K
              refine nA ?_ (some 10)
              exact norm_ (by simp only [putAll, Act.put, List.setIfInBounds_toArray, List.set_cons_zero, List.set_cons_succ]) (hCont (gb216) _ ⟨hHeld, (upK BK204.out), (upK BK205.out), (upK BK216.out), GE216.out, GE216.out, NB204_216.out, NB216_204.out, NB205_216.out, NB216_205.out, (bW HB)⟩)
             ·skip
              refine box_step ?hg (N := 10) ?hd (cs := #[.int .i64 0, .int .i64 0, .int .i64 0, .int .i64 0, .int .i64 0]) (t := 25) ?hr ?_; (case hd => rfl); (case hg => rfl); (case hr => first | (go_simp; done) | (go_simp; rfl))
              intro gb216 hg w30 hbox hb
              have BK216 := Aside0.mk hbox
              have GE216 := gB HB hg
              have ⟨NB204_216, NB216_204⟩ := nB BK204 hg
              have ⟨NB205_216, NB216_205⟩ := nB BK205 hg
              replace BK204 := uK BK204 hb
              replace BK205 := uK BK205 hb
              replace HB := uB HB hb
              clear hb hbox hg
              refine hK.out _ _ ⟨cb BK204 0, cb BK204 1, cb BK204 2, cb BK204 3, cb BK204 4, (bX HB hw209_0), (bX HB hw209_1)⟩ (fun hHeld => ?_)
              clear hK K
              refine nA ?_ (some 10)
              refine oA 5 (some 46) HT_ fun K hK => ?_
              refine rA Try.func52 (spec_l21Make.calls k3 x205000_3 x205001_3 x205002_3 x205003_3 x205004_3 ((rd_T49 l1 x9_3).f0) ((rd_T49 l1 x9_3).f1) t210 t211 t212 t213 t214 true _ A27.out) ?_
              intro w31 hb
              replace BK204 := uK BK204 hb
              replace BK205 := uK BK205 hb
              replace BK216 := uK BK216 hb
              replace HB := uB HB hb
              (try clear hb)
              refine hK.out _ _ ⟨cb BK204 0, cb BK204 1, cb BK204 2, cb BK204 3, cb BK204 4, (bX HB hw209_0), (bX HB hw209_1)⟩ (fun hHeld => ?_)
              clear hK K
              refine nA ?_ (some 46)
              refine pA 6 40 HT_ ?_
              refine pA 7 47 HT_ ?_
              refine pA 8 48 HT_ ?_
              exact norm_ (by simp only [putAll, Act.put, List.setIfInBounds_toArray, List.set_cons_zero, List.set_cons_succ]) (hCont (gb216) _ ⟨hHeld, (upK BK204.out), (upK BK205.out), (upK BK216.out), GE216.out, GE216.out, NB204_216.out, NB216_204.out, NB205_216.out, NB216_205.out, (bW HB)⟩)
            rintro gb216 w32 ⟨hS_, h0_, h1_, h2_, h3_, h4_, h5_, h6_, h7_, h8_, h9_⟩
            have n0_ : Aside0 (w32.heap[gb204]? = some (.cells #[.int .i64 x205000_3, .int .i64 x205001_3, .int .i64 x205002_3, .int .i64 x205003_3, .int .i64 x205004_3] 25 (0, 0))) := ⟨h0_⟩
            have n1_ : Aside0 (w32.heap[gb205]? = some (.cells #[.int .i64 x206000_2, .int .i64 x206001_2, .int .i64 x206002_2, .int .i64 x206003_2, .int .i64 x206004_2] 25 (0, 0))) := ⟨h1_⟩
            have n2_ : Aside0 (w32.heap[gb216]? = some (.cells #[.int .i64 0, .int .i64 0, .int .i64 0, .int .i64 0, .int .i64 0] 25 (0, 0))) := ⟨h2_⟩
            have n3_ : Aside0 (w.heap.size ≤ gb216) := ⟨h3_⟩
            have n4_ : Aside0 (w.heap.size ≤ gb216) := ⟨h4_⟩
            have n5_ : Aside0 (gb204 ≠ gb216) := ⟨h5_⟩
            have n6_ : Aside0 (gb216 ≠ gb204) := ⟨h6_⟩
            have n7_ : Aside0 (gb205 ≠ gb216) := ⟨h7_⟩
            have n8_ : Aside0 (gb216 ≠ gb205) := ⟨h8_⟩
            have n9_ : Aside0 (Below w.heap.size w w32) := ⟨h9_⟩
            clear BK204
            clear BK205
            clear HB
            clear h0_ h1_ h2_ h3_ h4_ h5_ h6_ h7_ h8_ h9_
            have BK204 := n0_
            have BK205 := n1_
            have BK216 := n2_
            have GE216 := n3_
            have GE216 := n4_
            have NB204_216 := n5_
            have NB216_204 := n6_
            have NB205_216 := n7_
            have NB216_205 := n8_
            have HB := n9_
            clear n0_ n1_ n2_ n3_ n4_ n5_ n6_ n7_ n8_ n9_
            have hHeld : w32.cell? ⟨gb204, 0, none⟩ = some (.int .i64 x205000_3) ∧ w32.cell? ⟨gb204, 1, none⟩ = some (.int .i64 x205001_3) ∧ w32.cell? ⟨gb204, 2, none⟩ = some (.int .i64 x205002_3) ∧ w32.cell? ⟨gb204, 3, none⟩ = some (.int .i64 x205003_3) ∧ w32.cell? ⟨gb204, 4, none⟩ = some (.int .i64 x205004_3) ∧ w32.cell? (ad209.add ((x9_3).toNat * 2)) = some (.int .i64 ((rd_T49 l1 x9_3).f0)) ∧ w32.cell? ⟨(ad209.add ((x9_3).toNat * 2)).block, (ad209.add ((x9_3).toNat * 2)).off + 1, none⟩ = some (.int .i64 ((rd_T49 l1 x9_3).f1)) := hS_
            refine norm_ (a' := ?_) ?_ ?_
            rotate_left
            ·simp only [putAll, Act.put, List.setIfInBounds_toArray, List.set_cons_zero, List.set_cons_succ]
             rfl
            refine oA 10 none HT_ fun K hK => ?_
            have hs33 := ci BK216.out 0 0 rfl
            have hfs33 := blk_frozen BK216.out 0
            have hns33_0 := NB204_216.out
            have hns33_1 := NB205_216.out
            have hms33_0 := NB216_204.out
            have hms33_1 := NB216_205.out
            have hs34 := ci BK216.out 1 0 rfl
            have hfs34 := blk_frozen BK216.out 1
            have hs35 := ci BK216.out 2 0 rfl
            have hfs35 := blk_frozen BK216.out 2
            have hs36 := ci BK216.out 3 0 rfl
            have hfs36 := blk_frozen BK216.out 3
            have hs37 := ci BK216.out 4 0 rfl
            have hfs37 := blk_frozen BK216.out 4
            refine skip_ (w1 := ?_) (by rfl) rfl ?_ ?_
            rotate_left
            ·go_simp
             rfl
            refine hK.out _ _ ⟨((cell_far (p := ⟨gb216, _, none⟩) NB204_216.out _).trans (((cell_far (p := ⟨gb216, _, none⟩) NB204_216.out _).trans (((cell_far (p := ⟨gb216, _, none⟩) NB204_216.out _).trans (((cell_far (p := ⟨gb216, _, none⟩) NB204_216.out _).trans (((cell_far (p := ⟨gb216, _, none⟩) NB204_216.out _).trans (hHeld.1)))))))))), ((cell_far (p := ⟨gb216, _, none⟩) NB204_216.out _).trans (((cell_far (p := ⟨gb216, _, none⟩) NB204_216.out _).trans (((cell_far (p := ⟨gb216, _, none⟩) NB204_216.out _).trans (((cell_far (p := ⟨gb216, _, none⟩) NB204_216.out _).trans (((cell_far (p := ⟨gb216, _, none⟩) NB204_216.out _).trans (hHeld.2.1)))))))))), ((cell_far (p := ⟨gb216, _, none⟩) NB204_216.out _).trans (((cell_far (p := ⟨gb216, _, none⟩) NB204_216.out _).trans (((cell_far (p := ⟨gb216, _, none⟩) NB204_216.out _).trans (((cell_far (p := ⟨gb216, _, none⟩) NB204_216.out _).trans (((cell_far (p := ⟨gb216, _, none⟩) NB204_216.out _).trans (hHeld.2.2.1)))))))))), ((cell_far (p := ⟨gb216, _, none⟩) NB204_216.out _).trans (((cell_far (p := ⟨gb216, _, none⟩) NB204_216.out _).trans (((cell_far (p := ⟨gb216, _, none⟩) NB204_216.out _).trans (((cell_far (p := ⟨gb216, _, none⟩) NB204_216.out _).trans (((cell_far (p := ⟨gb216, _, none⟩) NB204_216.out _).trans (hHeld.2.2.2.1)))))))))), ((cell_far (p := ⟨gb216, _, none⟩) NB204_216.out _).trans (((cell_far (p := ⟨gb216, _, none⟩) NB204_216.out _).trans (((cell_far (p := ⟨gb216, _, none⟩) NB204_216.out _).trans (((cell_far (p := ⟨gb216, _, none⟩) NB204_216.out _).trans (((cell_far (p := ⟨gb216, _, none⟩) NB204_216.out _).trans (hHeld.2.2.2.2.1)))))))))), ((cell_far (p := ⟨gb216, _, none⟩) (by first | exact Nat.ne_of_lt (Nat.lt_of_lt_of_le (by have := World.block_lt_of_cell? _ _ hw209_0; first | rwa [add_block] at this | exact this) GE216.out) | (rw [add_block]; exact Nat.ne_of_lt (Nat.lt_of_lt_of_le (by have := World.block_lt_of_cell? _ _ hw209_0; first | rwa [add_block] at this | exact this) GE216.out)) | (show (Addr.add _ _).block ≠ _; rw [add_block]; exact Nat.ne_of_lt (Nat.lt_of_lt_of_le (by have := World.block_lt_of_cell? _ _ hw209_0; first | rwa [add_block] at this | exact this) GE216.out)) | (dsimp only; exact Nat.ne_of_lt (Nat.lt_of_lt_of_le (by have := World.block_lt_of_cell? _ _ hw209_0; first | rwa [add_block] at this | exact this) GE216.out))) _).trans (((cell_far (p := ⟨gb216, _, none⟩) (by first | exact Nat.ne_of_lt (Nat.lt_of_lt_of_le (by have := World.block_lt_of_cell? _ _ hw209_0; first | rwa [add_block] at this | exact this) GE216.out) | (rw [add_block]; exact Nat.ne_of_lt (Nat.lt_of_lt_of_le (by have := World.block_lt_of_cell? _ _ hw209_0; first | rwa [add_block] at this | exact this) GE216.out)) | (show (Addr.add _ _).block ≠ _; rw [add_block]; exact Nat.ne_of_lt (Nat.lt_of_lt_of_le (by have := World.block_lt_of_cell? _ _ hw209_0; first | rwa [add_block] at this | exact this) GE216.out)) | (dsimp only; exact Nat.ne_of_lt (Nat.lt_of_lt_of_le (by have := World.block_lt_of_cell? _ _ hw209_0; first | rwa [add_block] at this | exact this) GE216.out))) _).trans (((cell_far (p := ⟨gb216, _, none⟩) (by first | exact Nat.ne_of_lt (Nat.lt_of_lt_of_le (by have := World.block_lt_of_cell? _ _ hw209_0; first | rwa [add_block] at this | exact this) GE216.out) | (rw [add_block]; exact Nat.ne_of_lt (Nat.lt_of_lt_of_le (by have := World.block_lt_of_cell? _ _ hw209_0; first | rwa [add_block] at this | exact this) GE216.out)) | (show (Addr.add _ _).block ≠ _; rw [add_block]; exact Nat.ne_of_lt (Nat.lt_of_lt_of_le (by have := World.block_lt_of_cell? _ _ hw209_0; first | rwa [add_block] at this | exact this) GE216.out)) | (dsimp only; exact Nat.ne_of_lt (Nat.lt_of_lt_of_le (by have := World.block_lt_of_cell? _ _ hw209_0; first | rwa [add_block] at this | exact this) GE216.out))) _).trans (((cell_far (p := ⟨gb216, _, none⟩) (by first | exact Nat.ne_of_lt (Nat.lt_of_lt_of_le (by have := World.block_lt_of_cell? _ _ hw209_0; first | rwa [add_block] at this | exact this) GE216.out) | (rw [add_block]; exact Nat.ne_of_lt (Nat.lt_of_lt_of_le (by have := World.block_lt_of_cell? _ _ hw209_0; first | rwa [add_block] at this | exact this) GE216.out)) | (show (Addr.add _ _).block ≠ _; rw [add_block]; exact Nat.ne_of_lt (Nat.lt_of_lt_of_le (by have := World.block_lt_of_cell? _ _ hw209_0; first | rwa [add_block] at this | exact this) GE216.out)) | (dsimp only; exact Nat.ne_of_lt (Nat.lt_of_lt_of_le (by have := World.block_lt_of_cell? _ _ hw209_0; first | rwa [add_block] at this | exact this) GE216.out))) _).trans (((cell_far (p := ⟨gb216, _, none⟩) (by first | exact Nat.ne_of_lt (Nat.lt_of_lt_of_le (by have := World.block_lt_of_cell? _ _ hw209_0; first | rwa [add_block] at this | exact this) GE216.out) | (rw [add_block]; exact Nat.ne_of_lt (Nat.lt_of_lt_of_le (by have := World.block_lt_of_cell? _ _ hw209_0; first | rwa [add_block] at this | exact this) GE216.out)) | (show (Addr.add _ _).block ≠ _; rw [add_block]; exact Nat.ne_of_lt (Nat.lt_of_lt_of_le (by have := World.block_lt_of_cell? _ _ hw209_0; first | rwa [add_block] at this | exact this) GE216.out)) | (dsimp only; exact Nat.ne_of_lt (Nat.lt_of_lt_of_le (by have := World.block_lt_of_cell? _ _ hw209_0; first | rwa [add_block] at this | exact this) GE216.out))) _).trans (hHeld.2.2.2.2.2.1)))))))))), ((cell_far (p := ⟨gb216, _, none⟩) (by first | exact Nat.ne_of_lt (Nat.lt_of_lt_of_le (by have := World.block_lt_of_cell? _ _ hw209_1; first | rwa [add_block] at this | exact this) GE216.out) | (rw [add_block]; exact Nat.ne_of_lt (Nat.lt_of_lt_of_le (by have := World.block_lt_of_cell? _ _ hw209_1; first | rwa [add_block] at this | exact this) GE216.out)) | (show (Addr.add _ _).block ≠ _; rw [add_block]; exact Nat.ne_of_lt (Nat.lt_of_lt_of_le (by have := World.block_lt_of_cell? _ _ hw209_1; first | rwa [add_block] at this | exact this) GE216.out)) | (dsimp only; exact Nat.ne_of_lt (Nat.lt_of_lt_of_le (by have := World.block_lt_of_cell? _ _ hw209_1; first | rwa [add_block] at this | exact this) GE216.out))) _).trans (((cell_far (p := ⟨gb216, _, none⟩) (by first | exact Nat.ne_of_lt (Nat.lt_of_lt_of_le (by have := World.block_lt_of_cell? _ _ hw209_1; first | rwa [add_block] at this | exact this) GE216.out) | (rw [add_block]; exact Nat.ne_of_lt (Nat.lt_of_lt_of_le (by have := World.block_lt_of_cell? _ _ hw209_1; first | rwa [add_block] at this | exact this) GE216.out)) | (show (Addr.add _ _).block ≠ _; rw [add_block]; exact Nat.ne_of_lt (Nat.lt_of_lt_of_le (by have := World.block_lt_of_cell? _ _ hw209_1; first | rwa [add_block] at this | exact this) GE216.out)) | (dsimp only; exact Nat.ne_of_lt (Nat.lt_of_lt_of_le (by have := World.block_lt_of_cell? _ _ hw209_1; first | rwa [add_block] at this | exact this) GE216.out))) _).trans (((cell_far (p := ⟨gb216, _, none⟩) (by first | exact Nat.ne_of_lt (Nat.lt_of_lt_of_le (by have := World.block_lt_of_cell? _ _ hw209_1; first | rwa [add_block] at this | exact this) GE216.out) | (rw [add_block]; exact Nat.ne_of_lt (Nat.lt_of_lt_of_le (by have := World.block_lt_of_cell? _ _ hw209_1; first | rwa [add_block] at this | exact this) GE216.out)) | (show (Addr.add _ _).block ≠ _; rw [add_block]; exact Nat.ne_of_lt (Nat.lt_of_lt_of_le (by have := World.block_lt_of_cell? _ _ hw209_1; first | rwa [add_block] at this | exact this) GE216.out)) | (dsimp only; exact Nat.ne_of_lt (Nat.lt_of_lt_of_le (by have := World.block_lt_of_cell? _ _ hw209_1; first | rwa [add_block] at this | exact this) GE216.out))) _).trans (((cell_far (p := ⟨gb216, _, none⟩) (by first | exact Nat.ne_of_lt (Nat.lt_of_lt_of_le (by have := World.block_lt_of_cell? _ _ hw209_1; first | rwa [add_block] at this | exact this) GE216.out) | (rw [add_block]; exact Nat.ne_of_lt (Nat.lt_of_lt_of_le (by have := World.block_lt_of_cell? _ _ hw209_1; first | rwa [add_block] at this | exact this) GE216.out)) | (show (Addr.add _ _).block ≠ _; rw [add_block]; exact Nat.ne_of_lt (Nat.lt_of_lt_of_le (by have := World.block_lt_of_cell? _ _ hw209_1; first | rwa [add_block] at this | exact this) GE216.out)) | (dsimp only; exact Nat.ne_of_lt (Nat.lt_of_lt_of_le (by have := World.block_lt_of_cell? _ _ hw209_1; first | rwa [add_block] at this | exact this) GE216.out))) _).trans (((cell_far (p := ⟨gb216, _, none⟩) (by first | exact Nat.ne_of_lt (Nat.lt_of_lt_of_le (by have := World.block_lt_of_cell? _ _ hw209_1; first | rwa [add_block] at this | exact this) GE216.out) | (rw [add_block]; exact Nat.ne_of_lt (Nat.lt_of_lt_of_le (by have := World.block_lt_of_cell? _ _ hw209_1; first | rwa [add_block] at this | exact this) GE216.out)) | (show (Addr.add _ _).block ≠ _; rw [add_block]; exact Nat.ne_of_lt (Nat.lt_of_lt_of_le (by have := World.block_lt_of_cell? _ _ hw209_1; first | rwa [add_block] at this | exact this) GE216.out)) | (dsimp only; exact Nat.ne_of_lt (Nat.lt_of_lt_of_le (by have := World.block_lt_of_cell? _ _ hw209_1; first | rwa [add_block] at this | exact this) GE216.out))) _).trans (hHeld.2.2.2.2.2.2))))))))))⟩ (fun hHeld => ?_)
            clear hK K
            refine pA 11 11 HT_ ?_
            refine done_ (done_of HT_.out (by kernel_rfl)) ?_
            have ⟨hcz40_0, hcz40_1, hcz40_2, hcz40_3, hcz40_4, hfz40_0⟩ := cz5 BK216
            have hnb41 := NB204_205.out
            have hnc41 := NB205_204.out
            have ⟨hcz42_0, hcz42_1, hcz42_2, hcz42_3, hcz42_4, hfz42_0⟩ := cz5 BK204
            try go_wp2
            go_roundg k3
            case measure => have := HJ2.out; have := HK2.out; have := HK3.out; omega
            case rel => exact ⟨(wrap64 (x8_3 + 1)), (wrap64 (x9_3 + 1)), (t210), (t211), (t212), (t213), (t214), rB, rB, H', ⟨by have := HJ2.out; have := HK2.out; have := HK3.out; omega⟩, ⟨by exact pW BK204⟩, ⟨by exact pW BK205⟩, (aB HB)⟩
           ·replace H := iF (by decide) H
            have H' := Aside0.mk H
            clear H
            try go_wp2
            replace BK204 := dK BK204
            replace BK205 := dK BK205
            replace HB := Aside0.mk (below_drew1 HB.out)
            have p209 : 0 ≤ (x9_3 : Int) := of_decide_eq_true asmB
            have q209 : x9_3 < (l1.length : Int) := of_decide_eq_true asmB
            obtain ⟨ad209, e209, hx209_0, hx209_1⟩ := at_T49 HR1.out x9_3 p209 q209
            have hw209_1 := hx209_1
            have hw209_0 := hx209_0
            cases e209
            replace hx209_0 := bx HB.out hx209_0
            replace hx209_1 := bx HB.out hx209_1
            replace p209 := eq_true p209
            replace q209 := eq_true q209
            refine sA (n := 12) (S := fun w' => w'.cell? ⟨gb204, 0, none⟩ = some (.int .i64 x205000_3) ∧ w'.cell? ⟨gb204, 1, none⟩ = some (.int .i64 x205001_3) ∧ w'.cell? ⟨gb204, 2, none⟩ = some (.int .i64 x205002_3) ∧ w'.cell? ⟨gb204, 3, none⟩ = some (.int .i64 x205003_3) ∧ w'.cell? ⟨gb204, 4, none⟩ = some (.int .i64 x205004_3) ∧ w'.cell? (ad209.add ((x9_3).toNat * 2)) = some (.int .i64 ((rd_T49 l1 x9_3).f0)) ∧ w'.cell? ⟨(ad209.add ((x9_3).toNat * 2)).block, (ad209.add ((x9_3).toNat * 2)).off + 1, none⟩ = some (.int .i64 ((rd_T49 l1 x9_3).f1))) (ds := []) spec_RunTrip.tab12 spec_RunTrip.bits12 #[false, false, false, false, false, false, false, false, false, false, false, false] ⟨cb BK204 0, cb BK204 1, cb BK204 2, cb BK204 3, cb BK204 4, (bX HB hw209_0), (bX HB hw209_1)⟩ fun hHeld HT_ HW_ => ?_
            generalize wr.drew = w43 at BK204 BK205 HB hx209_0 hx209_1 hHeld ⊢
            refine pA 1 42 HT_ ?_
            refine pA 2 43 HT_ ?_
            refine pA 3 44 HT_ ?_
            refine tA 0 41 HT_ HW_ hHeld ?_
            refine tA 4 45 HT_ HW_ hHeld ?_
            refine join_ (σ := Nat) 2 #[true, true, true, true, true, true, true, true, true, true, false, false] (fun s_ => [(46, .tuple #[.agg #[.int .i64 t210, .int .i64 t211, .int .i64 t212, .int .i64 t213, .int .i64 t214], .bool false]), (10, .pointer (some ⟨s_, 0, none⟩)), (40, .tuple #[.agg #[.int .i64 t210, .int .i64 t211, .int .i64 t212, .int .i64 t213, .int .i64 t214], .bool false]), (47, .agg #[.int .i64 t210, .int .i64 t211, .int .i64 t212, .int .i64 t213, .int .i64 t214]), (48, .bool false)]) (fun s_ w' => (w'.cell? ⟨gb204, 0, none⟩ = some (.int .i64 x205000_3) ∧ w'.cell? ⟨gb204, 1, none⟩ = some (.int .i64 x205001_3) ∧ w'.cell? ⟨gb204, 2, none⟩ = some (.int .i64 x205002_3) ∧ w'.cell? ⟨gb204, 3, none⟩ = some (.int .i64 x205003_3) ∧ w'.cell? ⟨gb204, 4, none⟩ = some (.int .i64 x205004_3) ∧ w'.cell? (ad209.add ((x9_3).toNat * 2)) = some (.int .i64 ((rd_T49 l1 x9_3).f0)) ∧ w'.cell? ⟨(ad209.add ((x9_3).toNat * 2)).block, (ad209.add ((x9_3).toNat * 2)).off + 1, none⟩ = some (.int .i64 ((rd_T49 l1 x9_3).f1))) ∧ (w'.heap[gb204]? = some (.cells #[.int .i64 x205000_3, .int .i64 x205001_3, .int .i64 x205002_3, .int .i64 x205003_3, .int .i64 x205004_3] 25 (0, 0))) ∧ (w'.heap[gb205]? = some (.cells #[.int .i64 x206000_2, .int .i64 x206001_2, .int .i64 x206002_2, .int .i64 x206003_2, .int .i64 x206004_2] 25 (0, 0))) ∧ (w'.heap[s_]? = some (.cells #[.int .i64 0, .int .i64 0, .int .i64 0, .int .i64 0, .int .i64 0] 25 (0, 0))) ∧ (w.heap.size ≤ s_) ∧ (w.heap.size ≤ s_) ∧ (gb204 ≠ s_) ∧ (s_ ≠ gb204) ∧ (gb205 ≠ s_) ∧ (s_ ≠ gb205) ∧ (Below w.heap.size w w')) ?_ ?_
            rotate_left
            ·intro hCont
             refine two_ (i := 5) (j := 9) (Ni := some 46) (Nj := some 10) #[true, true, true, true, true, true, false, false, false, false, false, false] #[true, true, true, true, true, false, false, false, false, true, false, false] rfl rfl rfl rfl (two_of HT_.out (by kernel_rfl)) (by decide) (by decide) (fun K hK => ?_) (fun K hK => ?_)
             ·skip
              refine rA Try.func52 (spec_l21Make.calls k3 x205000_3 x205001_3 x205002_3 x205003_3 x205004_3 ((rd_T49 l1 x9_3).f0) ((rd_T49 l1 x9_3).f1) t210 t211 t212 t213 t214 false _ A27.out) ?_
              intro w44 hb
              replace BK204 := uK BK204 hb
              replace BK205 := uK BK205 hb
              replace HB := uB HB hb
              (try clear hb)
              refine hK.out _ _ ⟨cb BK204 0, cb BK204 1, cb BK204 2, cb BK204 3, cb BK204 4, (bX HB hw209_0), (bX HB hw209_1)⟩ (fun hHeld => ?_)
              clear hK K
              refine nA ?_ (some 46)
              refine pA 6 40 HT_ ?_
              refine pA 7 47 HT_ ?_
              refine pA 8 48 HT_ ?_
              refine oA 9 (some 10) HT_ fun K hK => ?_
              refine box_step ?hg (N := 10) ?hd (cs := #[.int .i64 0, .int .i64 0, .int .i64 0, .int .i64 0, .int .i64 0]) (t := 25) ?hr ?_; (case hd => rfl); (case hg => rfl); (case hr => first | (go_simp; done) | (go_simp; rfl))
              intro gb216 hg w45 hbox hb
              have BK216 := Aside0.mk hbox
              have GE216 := gB HB hg
              have ⟨NB204_216, NB216_204⟩ := nB BK204 hg
              have ⟨NB205_216, NB216_205⟩ := nB BK205 hg
              replace BK204 := uK BK204 hb
              replace BK205 := uK BK205 hb
              replace HB := uB HB hb
              clear hb hbox hg
              refine hK.out _ _ ⟨cb BK204 0, cb BK204 1, cb BK204 2, cb BK204 3, cb BK204 4, (bX HB hw209_0), (bX HB hw209_1)⟩ (fun hHeld => ?_)
              clear hK K
              refine nA ?_ (some 10)
              exact norm_ (by simp only [putAll, Act.put, List.setIfInBounds_toArray, List.set_cons_zero, List.set_cons_succ]) (hCont (gb216) _ ⟨hHeld, (upK BK204.out), (upK BK205.out), (upK BK216.out), GE216.out, GE216.out, NB204_216.out, NB216_204.out, NB205_216.out, NB216_205.out, (bW HB)⟩)
             ·skip
              refine box_step ?hg (N := 10) ?hd (cs := #[.int .i64 0, .int .i64 0, .int .i64 0, .int .i64 0, .int .i64 0]) (t := 25) ?hr ?_; (case hd => rfl); (case hg => rfl); (case hr => first | (go_simp; done) | (go_simp; rfl))
              intro gb216 hg w44 hbox hb
              have BK216 := Aside0.mk hbox
              have GE216 := gB HB hg
              have ⟨NB204_216, NB216_204⟩ := nB BK204 hg
              have ⟨NB205_216, NB216_205⟩ := nB BK205 hg
              replace BK204 := uK BK204 hb
              replace BK205 := uK BK205 hb
              replace HB := uB HB hb
              clear hb hbox hg
              refine hK.out _ _ ⟨cb BK204 0, cb BK204 1, cb BK204 2, cb BK204 3, cb BK204 4, (bX HB hw209_0), (bX HB hw209_1)⟩ (fun hHeld => ?_)
              clear hK K
              refine nA ?_ (some 10)
              refine oA 5 (some 46) HT_ fun K hK => ?_
              refine rA Try.func52 (spec_l21Make.calls k3 x205000_3 x205001_3 x205002_3 x205003_3 x205004_3 ((rd_T49 l1 x9_3).f0) ((rd_T49 l1 x9_3).f1) t210 t211 t212 t213 t214 false _ A27.out) ?_
              intro w45 hb
              replace BK204 := uK BK204 hb
              replace BK205 := uK BK205 hb
              replace BK216 := uK BK216 hb
              replace HB := uB HB hb
              (try clear hb)
              refine hK.out _ _ ⟨cb BK204 0, cb BK204 1, cb BK204 2, cb BK204 3, cb BK204 4, (bX HB hw209_0), (bX HB hw209_1)⟩ (fun hHeld => ?_)
              clear hK K
              refine nA ?_ (some 46)
              refine pA 6 40 HT_ ?_
              refine pA 7 47 HT_ ?_
              refine pA 8 48 HT_ ?_
              exact norm_ (by simp only [putAll, Act.put, List.setIfInBounds_toArray, List.set_cons_zero, List.set_cons_succ]) (hCont (gb216) _ ⟨hHeld, (upK BK204.out), (upK BK205.out), (upK BK216.out), GE216.out, GE216.out, NB204_216.out, NB216_204.out, NB205_216.out, NB216_205.out, (bW HB)⟩)
            rintro gb216 w46 ⟨hS_, h0_, h1_, h2_, h3_, h4_, h5_, h6_, h7_, h8_, h9_⟩
            have n0_ : Aside0 (w46.heap[gb204]? = some (.cells #[.int .i64 x205000_3, .int .i64 x205001_3, .int .i64 x205002_3, .int .i64 x205003_3, .int .i64 x205004_3] 25 (0, 0))) := ⟨h0_⟩
            have n1_ : Aside0 (w46.heap[gb205]? = some (.cells #[.int .i64 x206000_2, .int .i64 x206001_2, .int .i64 x206002_2, .int .i64 x206003_2, .int .i64 x206004_2] 25 (0, 0))) := ⟨h1_⟩
            have n2_ : Aside0 (w46.heap[gb216]? = some (.cells #[.int .i64 0, .int .i64 0, .int .i64 0, .int .i64 0, .int .i64 0] 25 (0, 0))) := ⟨h2_⟩
            have n3_ : Aside0 (w.heap.size ≤ gb216) := ⟨h3_⟩
            have n4_ : Aside0 (w.heap.size ≤ gb216) := ⟨h4_⟩
            have n5_ : Aside0 (gb204 ≠ gb216) := ⟨h5_⟩
            have n6_ : Aside0 (gb216 ≠ gb204) := ⟨h6_⟩
            have n7_ : Aside0 (gb205 ≠ gb216) := ⟨h7_⟩
            have n8_ : Aside0 (gb216 ≠ gb205) := ⟨h8_⟩
            have n9_ : Aside0 (Below w.heap.size w w46) := ⟨h9_⟩
            clear BK204
            clear BK205
            clear HB
            clear h0_ h1_ h2_ h3_ h4_ h5_ h6_ h7_ h8_ h9_
            have BK204 := n0_
            have BK205 := n1_
            have BK216 := n2_
            have GE216 := n3_
            have GE216 := n4_
            have NB204_216 := n5_
            have NB216_204 := n6_
            have NB205_216 := n7_
            have NB216_205 := n8_
            have HB := n9_
            clear n0_ n1_ n2_ n3_ n4_ n5_ n6_ n7_ n8_ n9_
            have hHeld : w46.cell? ⟨gb204, 0, none⟩ = some (.int .i64 x205000_3) ∧ w46.cell? ⟨gb204, 1, none⟩ = some (.int .i64 x205001_3) ∧ w46.cell? ⟨gb204, 2, none⟩ = some (.int .i64 x205002_3) ∧ w46.cell? ⟨gb204, 3, none⟩ = some (.int .i64 x205003_3) ∧ w46.cell? ⟨gb204, 4, none⟩ = some (.int .i64 x205004_3) ∧ w46.cell? (ad209.add ((x9_3).toNat * 2)) = some (.int .i64 ((rd_T49 l1 x9_3).f0)) ∧ w46.cell? ⟨(ad209.add ((x9_3).toNat * 2)).block, (ad209.add ((x9_3).toNat * 2)).off + 1, none⟩ = some (.int .i64 ((rd_T49 l1 x9_3).f1)) := hS_
            refine norm_ (a' := ?_) ?_ ?_
            rotate_left
            ·simp only [putAll, Act.put, List.setIfInBounds_toArray, List.set_cons_zero, List.set_cons_succ]
             rfl
            refine oA 10 none HT_ fun K hK => ?_
            have hs47 := ci BK216.out 0 0 rfl
            have hfs47 := blk_frozen BK216.out 0
            have hns47_0 := NB204_216.out
            have hns47_1 := NB205_216.out
            have hms47_0 := NB216_204.out
            have hms47_1 := NB216_205.out
            have hs48 := ci BK216.out 1 0 rfl
            have hfs48 := blk_frozen BK216.out 1
            have hs49 := ci BK216.out 2 0 rfl
            have hfs49 := blk_frozen BK216.out 2
            have hs50 := ci BK216.out 3 0 rfl
            have hfs50 := blk_frozen BK216.out 3
            have hs51 := ci BK216.out 4 0 rfl
            have hfs51 := blk_frozen BK216.out 4
            refine skip_ (w1 := ?_) (by rfl) rfl ?_ ?_
            rotate_left
            ·go_simp
             rfl
            refine hK.out _ _ ⟨((cell_far (p := ⟨gb216, _, none⟩) NB204_216.out _).trans (((cell_far (p := ⟨gb216, _, none⟩) NB204_216.out _).trans (((cell_far (p := ⟨gb216, _, none⟩) NB204_216.out _).trans (((cell_far (p := ⟨gb216, _, none⟩) NB204_216.out _).trans (((cell_far (p := ⟨gb216, _, none⟩) NB204_216.out _).trans (hHeld.1)))))))))), ((cell_far (p := ⟨gb216, _, none⟩) NB204_216.out _).trans (((cell_far (p := ⟨gb216, _, none⟩) NB204_216.out _).trans (((cell_far (p := ⟨gb216, _, none⟩) NB204_216.out _).trans (((cell_far (p := ⟨gb216, _, none⟩) NB204_216.out _).trans (((cell_far (p := ⟨gb216, _, none⟩) NB204_216.out _).trans (hHeld.2.1)))))))))), ((cell_far (p := ⟨gb216, _, none⟩) NB204_216.out _).trans (((cell_far (p := ⟨gb216, _, none⟩) NB204_216.out _).trans (((cell_far (p := ⟨gb216, _, none⟩) NB204_216.out _).trans (((cell_far (p := ⟨gb216, _, none⟩) NB204_216.out _).trans (((cell_far (p := ⟨gb216, _, none⟩) NB204_216.out _).trans (hHeld.2.2.1)))))))))), ((cell_far (p := ⟨gb216, _, none⟩) NB204_216.out _).trans (((cell_far (p := ⟨gb216, _, none⟩) NB204_216.out _).trans (((cell_far (p := ⟨gb216, _, none⟩) NB204_216.out _).trans (((cell_far (p := ⟨gb216, _, none⟩) NB204_216.out _).trans (((cell_far (p := ⟨gb216, _, none⟩) NB204_216.out _).trans (hHeld.2.2.2.1)))))))))), ((cell_far (p := ⟨gb216, _, none⟩) NB204_216.out _).trans (((cell_far (p := ⟨gb216, _, none⟩) NB204_216.out _).trans (((cell_far (p := ⟨gb216, _, none⟩) NB204_216.out _).trans (((cell_far (p := ⟨gb216, _, none⟩) NB204_216.out _).trans (((cell_far (p := ⟨gb216, _, none⟩) NB204_216.out _).trans (hHeld.2.2.2.2.1)))))))))), ((cell_far (p := ⟨gb216, _, none⟩) (by first | exact Nat.ne_of_lt (Nat.lt_of_lt_of_le (by have := World.block_lt_of_cell? _ _ hw209_0; first | rwa [add_block] at this | exact this) GE216.out) | (rw [add_block]; exact Nat.ne_of_lt (Nat.lt_of_lt_of_le (by have := World.block_lt_of_cell? _ _ hw209_0; first | rwa [add_block] at this | exact this) GE216.out)) | (show (Addr.add _ _).block ≠ _; rw [add_block]; exact Nat.ne_of_lt (Nat.lt_of_lt_of_le (by have := World.block_lt_of_cell? _ _ hw209_0; first | rwa [add_block] at this | exact this) GE216.out)) | (dsimp only; exact Nat.ne_of_lt (Nat.lt_of_lt_of_le (by have := World.block_lt_of_cell? _ _ hw209_0; first | rwa [add_block] at this | exact this) GE216.out))) _).trans (((cell_far (p := ⟨gb216, _, none⟩) (by first | exact Nat.ne_of_lt (Nat.lt_of_lt_of_le (by have := World.block_lt_of_cell? _ _ hw209_0; first | rwa [add_block] at this | exact this) GE216.out) | (rw [add_block]; exact Nat.ne_of_lt (Nat.lt_of_lt_of_le (by have := World.block_lt_of_cell? _ _ hw209_0; first | rwa [add_block] at this | exact this) GE216.out)) | (show (Addr.add _ _).block ≠ _; rw [add_block]; exact Nat.ne_of_lt (Nat.lt_of_lt_of_le (by have := World.block_lt_of_cell? _ _ hw209_0; first | rwa [add_block] at this | exact this) GE216.out)) | (dsimp only; exact Nat.ne_of_lt (Nat.lt_of_lt_of_le (by have := World.block_lt_of_cell? _ _ hw209_0; first | rwa [add_block] at this | exact this) GE216.out))) _).trans (((cell_far (p := ⟨gb216, _, none⟩) (by first | exact Nat.ne_of_lt (Nat.lt_of_lt_of_le (by have := World.block_lt_of_cell? _ _ hw209_0; first | rwa [add_block] at this | exact this) GE216.out) | (rw [add_block]; exact Nat.ne_of_lt (Nat.lt_of_lt_of_le (by have := World.block_lt_of_cell? _ _ hw209_0; first | rwa [add_block] at this | exact this) GE216.out)) | (show (Addr.add _ _).block ≠ _; rw [add_block]; exact Nat.ne_of_lt (Nat.lt_of_lt_of_le (by have := World.block_lt_of_cell? _ _ hw209_0; first | rwa [add_block] at this | exact this) GE216.out)) | (dsimp only; exact Nat.ne_of_lt (Nat.lt_of_lt_of_le (by have := World.block_lt_of_cell? _ _ hw209_0; first | rwa [add_block] at this | exact this) GE216.out))) _).trans (((cell_far (p := ⟨gb216, _, none⟩) (by first | exact Nat.ne_of_lt (Nat.lt_of_lt_of_le (by have := World.block_lt_of_cell? _ _ hw209_0; first | rwa [add_block] at this | exact this) GE216.out) | (rw [add_block]; exact Nat.ne_of_lt (Nat.lt_of_lt_of_le (by have := World.block_lt_of_cell? _ _ hw209_0; first | rwa [add_block] at this | exact this) GE216.out)) | (show (Addr.add _ _).block ≠ _; rw [add_block]; exact Nat.ne_of_lt (Nat.lt_of_lt_of_le (by have := World.block_lt_of_cell? _ _ hw209_0; first | rwa [add_block] at this | exact this) GE216.out)) | (dsimp only; exact Nat.ne_of_lt (Nat.lt_of_lt_of_le (by have := World.block_lt_of_cell? _ _ hw209_0; first | rwa [add_block] at this | exact this) GE216.out))) _).trans (((cell_far (p := ⟨gb216, _, none⟩) (by first | exact Nat.ne_of_lt (Nat.lt_of_lt_of_le (by have := World.block_lt_of_cell? _ _ hw209_0; first | rwa [add_block] at this | exact this) GE216.out) | (rw [add_block]; exact Nat.ne_of_lt (Nat.lt_of_lt_of_le (by have := World.block_lt_of_cell? _ _ hw209_0; first | rwa [add_block] at this | exact this) GE216.out)) | (show (Addr.add _ _).block ≠ _; rw [add_block]; exact Nat.ne_of_lt (Nat.lt_of_lt_of_le (by have := World.block_lt_of_cell? _ _ hw209_0; first | rwa [add_block] at this | exact this) GE216.out)) | (dsimp only; exact Nat.ne_of_lt (Nat.lt_of_lt_of_le (by have := World.block_lt_of_cell? _ _ hw209_0; first | rwa [add_block] at this | exact this) GE216.out))) _).trans (hHeld.2.2.2.2.2.1)))))))))), ((cell_far (p := ⟨gb216, _, none⟩) (by first | exact Nat.ne_of_lt (Nat.lt_of_lt_of_le (by have := World.block_lt_of_cell? _ _ hw209_1; first | rwa [add_block] at this | exact this) GE216.out) | (rw [add_block]; exact Nat.ne_of_lt (Nat.lt_of_lt_of_le (by have := World.block_lt_of_cell? _ _ hw209_1; first | rwa [add_block] at this | exact this) GE216.out)) | (show (Addr.add _ _).block ≠ _; rw [add_block]; exact Nat.ne_of_lt (Nat.lt_of_lt_of_le (by have := World.block_lt_of_cell? _ _ hw209_1; first | rwa [add_block] at this | exact this) GE216.out)) | (dsimp only; exact Nat.ne_of_lt (Nat.lt_of_lt_of_le (by have := World.block_lt_of_cell? _ _ hw209_1; first | rwa [add_block] at this | exact this) GE216.out))) _).trans (((cell_far (p := ⟨gb216, _, none⟩) (by first | exact Nat.ne_of_lt (Nat.lt_of_lt_of_le (by have := World.block_lt_of_cell? _ _ hw209_1; first | rwa [add_block] at this | exact this) GE216.out) | (rw [add_block]; exact Nat.ne_of_lt (Nat.lt_of_lt_of_le (by have := World.block_lt_of_cell? _ _ hw209_1; first | rwa [add_block] at this | exact this) GE216.out)) | (show (Addr.add _ _).block ≠ _; rw [add_block]; exact Nat.ne_of_lt (Nat.lt_of_lt_of_le (by have := World.block_lt_of_cell? _ _ hw209_1; first | rwa [add_block] at this | exact this) GE216.out)) | (dsimp only; exact Nat.ne_of_lt (Nat.lt_of_lt_of_le (by have := World.block_lt_of_cell? _ _ hw209_1; first | rwa [add_block] at this | exact this) GE216.out))) _).trans (((cell_far (p := ⟨gb216, _, none⟩) (by first | exact Nat.ne_of_lt (Nat.lt_of_lt_of_le (by have := World.block_lt_of_cell? _ _ hw209_1; first | rwa [add_block] at this | exact this) GE216.out) | (rw [add_block]; exact Nat.ne_of_lt (Nat.lt_of_lt_of_le (by have := World.block_lt_of_cell? _ _ hw209_1; first | rwa [add_block] at this | exact this) GE216.out)) | (show (Addr.add _ _).block ≠ _; rw [add_block]; exact Nat.ne_of_lt (Nat.lt_of_lt_of_le (by have := World.block_lt_of_cell? _ _ hw209_1; first | rwa [add_block] at this | exact this) GE216.out)) | (dsimp only; exact Nat.ne_of_lt (Nat.lt_of_lt_of_le (by have := World.block_lt_of_cell? _ _ hw209_1; first | rwa [add_block] at this | exact this) GE216.out))) _).trans (((cell_far (p := ⟨gb216, _, none⟩) (by first | exact Nat.ne_of_lt (Nat.lt_of_lt_of_le (by have := World.block_lt_of_cell? _ _ hw209_1; first | rwa [add_block] at this | exact this) GE216.out) | (rw [add_block]; exact Nat.ne_of_lt (Nat.lt_of_lt_of_le (by have := World.block_lt_of_cell? _ _ hw209_1; first | rwa [add_block] at this | exact this) GE216.out)) | (show (Addr.add _ _).block ≠ _; rw [add_block]; exact Nat.ne_of_lt (Nat.lt_of_lt_of_le (by have := World.block_lt_of_cell? _ _ hw209_1; first | rwa [add_block] at this | exact this) GE216.out)) | (dsimp only; exact Nat.ne_of_lt (Nat.lt_of_lt_of_le (by have := World.block_lt_of_cell? _ _ hw209_1; first | rwa [add_block] at this | exact this) GE216.out))) _).trans (((cell_far (p := ⟨gb216, _, none⟩) (by first | exact Nat.ne_of_lt (Nat.lt_of_lt_of_le (by have := World.block_lt_of_cell? _ _ hw209_1; first | rwa [add_block] at this | exact this) GE216.out) | (rw [add_block]; exact Nat.ne_of_lt (Nat.lt_of_lt_of_le (by have := World.block_lt_of_cell? _ _ hw209_1; first | rwa [add_block] at this | exact this) GE216.out)) | (show (Addr.add _ _).block ≠ _; rw [add_block]; exact Nat.ne_of_lt (Nat.lt_of_lt_of_le (by have := World.block_lt_of_cell? _ _ hw209_1; first | rwa [add_block] at this | exact this) GE216.out)) | (dsimp only; exact Nat.ne_of_lt (Nat.lt_of_lt_of_le (by have := World.block_lt_of_cell? _ _ hw209_1; first | rwa [add_block] at this | exact this) GE216.out))) _).trans (hHeld.2.2.2.2.2.2))))))))))⟩ (fun hHeld => ?_)
            clear hK K
            refine pA 11 11 HT_ ?_
            refine done_ (done_of HT_.out (by kernel_rfl)) ?_
            try go_wp2
            go_roundg k3
            case measure => have := HJ2.out; have := HK2.out; have := HK3.out; omega
            case rel => exact ⟨(x8_3), (wrap64 (x9_3 + 1)), (x205000_3), (x205001_3), (x205002_3), (x205003_3), (x205004_3), rB, rB, H', ⟨by have := HJ2.out; have := HK2.out; have := HK3.out; omega⟩, ⟨by exact pW BK204⟩, ⟨by exact pW BK205⟩, (aB HB)⟩
          ·rw [if_neg c26] at H
           exact absurd H (by simp)
         ·simp only [Option.some.injEq, Prod.mk.injEq] at H
          obtain ⟨rfl, rfl, rfl, rfl, rfl, rfl, rfl⟩ := H
          have hnb52 := NB204_205.out
          have hnc52 := NB205_204.out
          have ⟨hcz53_0, hcz53_1, hcz53_2, hcz53_3, hcz53_4, hfz53_0⟩ := cz5 BK204
          have ⟨hcz54_0, hcz54_1, hcz54_2, hcz54_3, hcz54_4, hfz54_0⟩ := cz5 BK205
          go_wp2
          refine bodyPost_ret (results_ctt rfl _ _ gb205 25 #[.int .i64 x205000_3, .int .i64 x205001_3, .int .i64 x205002_3, .int .i64 x205003_3, .int .i64 x205004_3] (0, 0) _ rfl (by exact pW BK205) Try.underlying25 rfl (by kernel_rfl)) rfl ?_
          exact ⟨eB, (bW HB)⟩

end Go.Proofs.Ytmeaacbnjpgepaa.QFnTrips
