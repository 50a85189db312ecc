/- Contracts of Go functions that FnSteps reaches: the call computes what the plain function says. No condition. -/
import Derived.Test.YtmfidodcpbochaaGreatQFnStepsx0
import Derived.Test.YtmfidodcpbochaaGreatQFnStepsx1
import Derived.Test.YtmfidodcpbochaaGreatQFnStepsx5
import Derived.Test.YtmfidodcpbochaaGreatQFnStepsx6
import Derived.Test.YtmfidodcpbochaaGreatQFnStepsx7
import Derived.Test.YtmfidodcpbochaaGreatQFnStepsx8
import Derived.Test.YtmfidodcpbochaaGreatQFnStepsx9
namespace Go.Proofs.YtmfidodcpbochaaGreat.QFnSteps
open Go.RowKit Go.Proofs.YtmfidodcpbochaaGreatW.PrintWords Go.Proofs.YtmfidodcpbochaaGreatW.PrintLast Go.Proofs.YtmfidodcpbochaaGreatW.PrintMore
attribute [local go_sem] max2_int min2_int max_two min_two max_three min_three max_four min_four   -- for this text's walks alone
set_option linter.unusedVariables false
set_option linter.unusedSimpArgs false

/-! ### laws_vInts: function 8 -/
def laws_vInts.l0 : Nat → List Int → List Int → Int → Option (Bool)
 | 0, _, _, _ => none
 | k + 1, x0, x1, x5 => if x5 < (x0.length : Int) then (if 0 ≤ x5 then (if x5 < (x1.length : Int) then (if (rd x0 x5) = (rd x1 x5) then (laws_vInts.l0 k x0 x1 (wrap64 (x5 + 1))) else (some false)) else (none)) else (none)) else (some true)
def laws_vInts.f (k : Nat) (l0 : List Int) (l1 : List Int) : Option (Bool) := if (l0.length : Int) = (l1.length : Int) then (laws_vInts.l0 k l0 l1 0) else (some false)
theorem laws_vInts.mono_l : ∀ k, (∀ y0 y1 y2, LeO (laws_vInts.l0 k y0 y1 y2) (laws_vInts.l0 (k + 1) y0 y1 y2))
 | 0 => fun _ _ _ r h => by simp [laws_vInts.l0] at h
 | k + 1 => by
  have ih0 := laws_vInts.mono_l k
  ·intro y0 y1 y2
   unfold laws_vInts.l0
   repeat' with_reducible first | apply ih0 | exact LeO.refl _ | exact LeO.none _ | refine LeO.ite ?_ ?_ | refine LeO.bind ?_ (fun _ => ?_)
theorem laws_vInts.mono : ∀ a0 a1 k, LeO (laws_vInts.f k a0 a1) (laws_vInts.f (k + 1) a0 a1) := by
 intro a0 a1 k
 have ih0 := laws_vInts.mono_l k
 unfold laws_vInts.f
 repeat' with_reducible first | apply ih0 | exact LeO.refl _ | exact LeO.none _ | refine LeO.ite ?_ ?_ | refine LeO.bind ?_ (fun _ => ?_)
set_option maxHeartbeats 8000000 in
set_option maxRecDepth 100000 in
theorem laws_vInts.calls (k : Nat) (A0 : Option Addr) (c0 : Nat) (l0 : List Int) (A1 : Option Addr) (c1 : Nat) (l1 : List Int) (r : Bool) (w : World) (hr0 : Kd.C (Kd.int .i64) w A0 l0.length l0) (hc0 : l0.length ≤ c0) (hr1 : Kd.C (Kd.int .i64) w A1 l1.length l1) (hc1 : l1.length ≤ c1) (h : laws_vInts.f k l0 l1 = some r) :
 Calls Tryz.prog 8 #[.slice A0 l0.length c0, .slice A1 l1.length c1] w fun e w' => e = .returned (.bool r) ∧ Drawn0 w w' := by
 have HR0 := Aside0.mk hr0
 have HC0 := Aside0.mk hc0
 clear hr0 hc0
 have HR1 := Aside0.mk hr1
 have HC1 := Aside0.mk hc1
 clear hr1 hc1
 have H := h
 clear h
 unfold laws_vInts.f at H
 replace H := ifI H
 rcases H with ⟨H, c3, c3b0, c3b1⟩ | ⟨H, c3, c3b0, c3b1⟩
 ·have c3b2 : (l0.length == l1.length) = true := by first | simpa using c3 | (simp at c3 ⊢; omega)
  clear c3
  have H' := Aside0.mk H
  clear H
  go_enter Tryz.func8, Tryz.ntmps8
  go_wp2
  go_loopg [5] k (fun kq v5 w' => ∃ (x5_1 : Int), v5 = .int .i64 x5_1 ∧ Aside0 (laws_vInts.l0 kq l0 l1 x5_1 = some r) ∧ Aside0 (kq ≤ k) ∧ Drawn0 w w')
  case atStart => exact ⟨(0), rB, H', ⟨Nat.le_refl _⟩, by repeat (first | exact Drawn0.refl _ | apply Drawn0.step)⟩
  case round =>
   clear H'
   try clear c1
   try clear c3
   try clear c3b0
   try clear c3b1
   try clear c3b2
   obtain ⟨x5_1, rfl, HA, HK1, ⟨m1, rfl⟩⟩ := hrel
   cases gk with
   | zero => exact absurd HA.out (by simp [laws_vInts.l0])
   | succ k1 =>
    have H := HA.out
    clear HA
    simp only [laws_vInts.l0] at H
    replace H := ifD H
    rcases H with ⟨H, -, c4b0⟩ | ⟨H, -, c4b0⟩
    ·replace H := zN H
     obtain ⟨c5b0, H⟩ := H
     replace H := zN H
     obtain ⟨c6b0, H⟩ := H
     replace H := ifI H
     rcases H with ⟨H, -, c7b0, c7b1⟩ | ⟨H, c7, c7b0, c7b1⟩
     ·have H' := Aside0.mk H
      clear H
      have p503 : 0 ≤ (x5_1 : Int) := of_decide_eq_true asmB
      have q503 : x5_1 < (l0.length : Int) := of_decide_eq_true asmB
      obtain ⟨ad503, e503, hx503_0⟩ := Kd.at_int HR0.out x5_1 p503 q503
      cases e503
      replace p503 := eq_true p503
      replace q503 := eq_true q503
      have p504 : 0 ≤ (x5_1 : Int) := of_decide_eq_true asmB
      have q504 : x5_1 < (l1.length : Int) := of_decide_eq_true asmB
      obtain ⟨ad504, e504, hx504_0⟩ := Kd.at_int HR1.out x5_1 p504 q504
      cases e504
      replace p504 := eq_true p504
      replace q504 := eq_true q504
      go_wp2
      repeat (go_quiet (fail); try go_wp2)
      go_roundg k1
      case measure => have := HK1.out; omega
      case rel => exact ⟨(wrap64 (x5_1 + 1)), rB, H', ⟨by have := HK1.out; omega⟩, by repeat (first | exact Drawn0.refl _ | apply Drawn0.step)⟩
     ·obtain rfl := Option.some.inj H
      have p503 : 0 ≤ (x5_1 : Int) := of_decide_eq_true asmB
      have q503 : x5_1 < (l0.length : Int) := of_decide_eq_true asmB
      obtain ⟨ad503, e503, hx503_0⟩ := Kd.at_int HR0.out x5_1 p503 q503
      cases e503
      replace p503 := eq_true p503
      replace q503 := eq_true q503
      have p504 : 0 ≤ (x5_1 : Int) := of_decide_eq_true asmB
      have q504 : x5_1 < (l1.length : Int) := of_decide_eq_true asmB
      obtain ⟨ad504, e504, hx504_0⟩ := Kd.at_int HR1.out x5_1 p504 q504
      cases e504
      replace p504 := eq_true p504
      replace q504 := eq_true q504
      go_wp2
      repeat (go_quiet (fail); try go_wp2)
      go_ret
      exact ⟨rB, by repeat (first | exact Drawn0.refl _ | apply Drawn0.step)⟩
    ·obtain rfl := Option.some.inj H
     go_wp2
     go_ret
     exact ⟨rB, by repeat (first | exact Drawn0.refl _ | apply Drawn0.step)⟩
 ·have c3b2 : (l0.length == l1.length) = false := by first | simpa using c3 | (simp at c3 ⊢; omega)
  obtain rfl := Option.some.inj H
  go_enter Tryz.func8, Tryz.ntmps8
  go_wp2
  go_ret
  exact ⟨rB, by repeat (first | exact Drawn0.refl _ | apply Drawn0.step)⟩

/-! ### laws_vFar: function 9 -/
def laws_vFar.f (a0 : Int) : Option (Int) := if a0 < 0 then (some (wrap64 (-a0))) else (some a0)
set_option maxHeartbeats 8000000 in
set_option maxRecDepth 100000 in
theorem laws_vFar.calls (a0 r : Int) (w : World) (h : laws_vFar.f a0 = some r) :
 Calls Tryz.prog 9 #[.int .i64 a0] w fun e w' => e = .returned (.int .i64 r) ∧ Drawn0 w w' := by
 have H := h
 clear h
 unfold laws_vFar.f at H
 replace H := ifD H
 rcases H with ⟨H, -, c2b0⟩ | ⟨H, -, c2b0⟩
 ·obtain rfl := Option.some.inj H
  go_enter Tryz.func9, Tryz.ntmps9
  go_wp2
  go_ret
  exact ⟨rB, by repeat (first | exact Drawn0.refl _ | apply Drawn0.step)⟩
 ·obtain rfl := Option.some.inj H
  go_enter Tryz.func9, Tryz.ntmps9
  go_wp2
  go_ret
  exact ⟨rB, by repeat (first | exact Drawn0.refl _ | apply Drawn0.step)⟩

/-! ### laws_vHas: function 10 -/
def laws_vHas.l0 : Nat → List Int → Int → Int → Option (Bool)
 | 0, _, _, _ => none
 | k + 1, x0, x1, x5 => if x5 < (x0.length : Int) then (if 0 ≤ x5 then (if (rd x0 x5) = x1 then (some true) else (laws_vHas.l0 k x0 x1 (wrap64 (x5 + 1)))) else (none)) else (some false)
def laws_vHas.f (k : Nat) (l0 : List Int) (a1 : Int) : Option (Bool) := laws_vHas.l0 k l0 a1 0
theorem laws_vHas.mono_l : ∀ k, (∀ y0 y1 y2, LeO (laws_vHas.l0 k y0 y1 y2) (laws_vHas.l0 (k + 1) y0 y1 y2))
 | 0 => fun _ _ _ r h => by simp [laws_vHas.l0] at h
 | k + 1 => by
  have ih0 := laws_vHas.mono_l k
  ·intro y0 y1 y2
   unfold laws_vHas.l0
   repeat' with_reducible first | apply ih0 | exact LeO.refl _ | exact LeO.none _ | refine LeO.ite ?_ ?_ | refine LeO.bind ?_ (fun _ => ?_)
theorem laws_vHas.mono : ∀ a0 a1 k, LeO (laws_vHas.f k a0 a1) (laws_vHas.f (k + 1) a0 a1) := by
 intro a0 a1 k
 have ih0 := laws_vHas.mono_l k
 unfold laws_vHas.f
 repeat' with_reducible first | apply ih0 | exact LeO.refl _ | exact LeO.none _ | refine LeO.ite ?_ ?_ | refine LeO.bind ?_ (fun _ => ?_)
set_option maxHeartbeats 8000000 in
set_option maxRecDepth 100000 in
theorem laws_vHas.calls (k : Nat) (A0 : Option Addr) (c0 : Nat) (l0 : List Int) (a1 : Int) (r : Bool) (w : World) (hr0 : Kd.C (Kd.int .i64) w A0 l0.length l0) (hc0 : l0.length ≤ c0) (h : laws_vHas.f k l0 a1 = some r) :
 Calls Tryz.prog 10 #[.slice A0 l0.length c0, .int .i64 a1] w fun e w' => e = .returned (.bool r) ∧ Drawn0 w w' := by
 have HR0 := Aside0.mk hr0
 have HC0 := Aside0.mk hc0
 clear hr0 hc0
 have H : (laws_vHas.l0 k l0 a1 0) = some r := h
 clear h
 have H' := Aside0.mk H
 clear H
 go_enter Tryz.func10, Tryz.ntmps10
 go_wp2
 go_loopg [5] k (fun kq v5 w' => ∃ (x5_1 : Int), v5 = .int .i64 x5_1 ∧ Aside0 (laws_vHas.l0 kq l0 a1 x5_1 = some r) ∧ Aside0 (kq ≤ k) ∧ Drawn0 w w')
 case atStart => exact ⟨(0), rB, H', ⟨Nat.le_refl _⟩, by repeat (first | exact Drawn0.refl _ | apply Drawn0.step)⟩
 case round =>
  clear H'
  obtain ⟨x5_1, rfl, HA, HK1, ⟨m1, rfl⟩⟩ := hrel
  cases gk with
  | zero => exact absurd HA.out (by simp [laws_vHas.l0])
  | succ k1 =>
   have H := HA.out
   clear HA
   simp only [laws_vHas.l0] at H
   replace H := ifD H
   rcases H with ⟨H, -, c3b0⟩ | ⟨H, -, c3b0⟩
   ·replace H := zN H
    obtain ⟨c4b0, H⟩ := H
    replace H := ifI H
    rcases H with ⟨H, -, c5b0, c5b1⟩ | ⟨H, c5, c5b0, c5b1⟩
    ·obtain rfl := Option.some.inj H
     have p505 : 0 ≤ (x5_1 : Int) := of_decide_eq_true asmB
     have q505 : x5_1 < (l0.length : Int) := of_decide_eq_true asmB
     obtain ⟨ad505, e505, hx505_0⟩ := Kd.at_int HR0.out x5_1 p505 q505
     cases e505
     replace p505 := eq_true p505
     replace q505 := eq_true q505
     go_wp2
     go_ret
     exact ⟨rB, by repeat (first | exact Drawn0.refl _ | apply Drawn0.step)⟩
    ·have H' := Aside0.mk H
     clear H
     have p505 : 0 ≤ (x5_1 : Int) := of_decide_eq_true asmB
     have q505 : x5_1 < (l0.length : Int) := of_decide_eq_true asmB
     obtain ⟨ad505, e505, hx505_0⟩ := Kd.at_int HR0.out x5_1 p505 q505
     cases e505
     replace p505 := eq_true p505
     replace q505 := eq_true q505
     go_wp2
     go_roundg k1
     case measure => have := HK1.out; omega
     case rel => exact ⟨(wrap64 (x5_1 + 1)), rB, H', ⟨by have := HK1.out; omega⟩, by repeat (first | exact Drawn0.refl _ | apply Drawn0.step)⟩
   ·obtain rfl := Option.some.inj H
    go_wp2
    go_ret
    exact ⟨rB, by repeat (first | exact Drawn0.refl _ | apply Drawn0.step)⟩

/-! ### spec_DrawRemotestStation: function 11 -/
def spec_DrawRemotestStation.f (k : Nat) (l0 : List Int) : Option ((List (S32)) × List Int) := (spec_DrawThroughTrips.f k l0).bind fun bt506 => (some (bt506.1, bt506.2))
theorem spec_DrawRemotestStation.mono : ∀ a0 k, LeO (spec_DrawRemotestStation.f k a0) (spec_DrawRemotestStation.f (k + 1) a0) := by
 intro a0 k
 unfold spec_DrawRemotestStation.f
 repeat' with_reducible first | apply spec_DrawThroughTrips.mono | exact LeO.refl _ | exact LeO.none _ | refine LeO.ite ?_ ?_ | refine LeO.bind ?_ (fun _ => ?_)
set_option maxHeartbeats 8000000 in
set_option maxRecDepth 100000 in
theorem spec_DrawRemotestStation.calls (k : Nat) (A0 : Option Addr) (c0 : Nat) (l0 : List Int) (r1 : List (S32)) (r2 : List Int) (w : World) (hr0 : Kd.C (Kd.int .u8) w A0 l0.length l0) (hc0 : l0.length ≤ c0) (h : spec_DrawRemotestStation.f k l0 = some (r1, r2)) :
 Calls Tryz.prog 11 #[.slice A0 l0.length c0] w fun e w' => ∃ v0_ v1_ : Value, e = .returned (.tuple #[v0_, v1_]) ∧ Kd.R k32 32 w' w.heap.size (fun _ => True) v0_ r1 ∧ Kd.R (Kd.int .i64) 3 w' w.heap.size (fun _ => True) v1_ r2 ∧ Below w.heap.size w w' := by
 have HR0 := Aside0.mk hr0
 have HC0 := Aside0.mk hc0
 clear hr0 hc0
 have HB := Aside0.mk (Below.refl w.heap.size w)
 have H := h
 clear h
 unfold spec_DrawRemotestStation.f at H
 replace H := Option.bind_eq_some_iff.mp H
 obtain ⟨⟨t506, t507⟩, A20, H⟩ := H
 (try dsimp only at H)
 have A2 := Aside0.mk A20
 clear A20
 simp only [Option.some.injEq, Prod.mk.injEq] at H
 obtain ⟨rfl, rfl⟩ := H
 go_enter Tryz.func11, Tryz.ntmps11
 go_wp2_with (first | ((with_reducible refine gC 21 ?_); refine zG (some 5) Tryz.func21 (spec_DrawThroughTrips.calls k _ _ l0 t506 t507 _ (zC HR0) (HC0.out) A2.out) ?_; rintro e w3 ⟨v508, v510, rfl, ho0, ho1, hb⟩; refine ⟨_, rfl, ?_⟩; have HO509 := Aside0.mk (Kd.R_lower ho0 (below_size (bW HB))); have HO511 := Aside0.mk (Kd.R_lower ho1 (below_size (bW HB))); replace HB := uB HB hb; (try clear hb); (try clear ho0); (try clear ho1)))
 go_ret2
 exact ⟨_, _, eB, upR HO509.out, upR HO511.out, (bW HB)⟩

/-! ### impl_RemotestStation: function 12 -/
mutual
def impl_RemotestStation.j0 : Nat → List (S32) → List Int → Bool → Option (Int × Int × Bool)
 | 0, _, _, _ => none
 | k + 1, x0, x1, x19 => if x19 = true then (some (0, 0, false)) else ((impl_stepsFrom.f k x0 x1).bind fun t513 => (impl_RemotestStation.l0 k 0 (-1) t513 (t513.length : Int) 0))
def impl_RemotestStation.l0 : Nat → Int → Int → List Int → Int → Int → Option (Int × Int × Bool)
 | 0, _, _, _, _, _ => none
 | k + 1, x7, x8, x22, x23, x24 => if x24 < x23 then (if 0 ≤ x24 then (if x24 < (x22.length : Int) then (if (rd x22 x24) > x8 then (impl_RemotestStation.l0 k x24 (rd x22 x24) x22 x23 (wrap64 (x24 + 1))) else (impl_RemotestStation.l0 k x7 x8 x22 x23 (wrap64 (x24 + 1)))) else (none)) else (none)) else (some (x7, x8, true))
end
def impl_RemotestStation.f (k : Nat) (l0 : List (S32)) (l1 : List Int) : Option (Int × Int × Bool) := (impl_areEntrances.f k l0 l1).bind fun t512 => (if t512 = true then (impl_RemotestStation.j0 k l0 l1 ((l1.length : Int) == 0)) else (impl_RemotestStation.j0 k l0 l1 true))
theorem impl_RemotestStation.mono_l : ∀ k, (∀ y0 y1 y2, LeO (impl_RemotestStation.j0 k y0 y1 y2) (impl_RemotestStation.j0 (k + 1) y0 y1 y2)) ∧ (∀ y0 y1 y2 y3 y4, LeO (impl_RemotestStation.l0 k y0 y1 y2 y3 y4) (impl_RemotestStation.l0 (k + 1) y0 y1 y2 y3 y4))
 | 0 => ⟨fun _ _ _ r h => by simp [impl_RemotestStation.j0] at h, fun _ _ _ _ _ r h => by simp [impl_RemotestStation.l0] at h⟩
 | k + 1 => by
  obtain ⟨ih0, ih1⟩ := impl_RemotestStation.mono_l k
  refine ⟨?_, ?_⟩
  ·intro y0 y1 y2
   unfold impl_RemotestStation.j0
   repeat' with_reducible first | apply ih0 | apply ih1 | apply impl_areEntrances.mono | apply impl_stepsFrom.mono | exact LeO.refl _ | exact LeO.none _ | refine LeO.ite ?_ ?_ | refine LeO.bind ?_ (fun _ => ?_)
  ·intro y0 y1 y2 y3 y4
   unfold impl_RemotestStation.l0
   repeat' with_reducible first | apply ih0 | apply ih1 | apply impl_areEntrances.mono | apply impl_stepsFrom.mono | exact LeO.refl _ | exact LeO.none _ | refine LeO.ite ?_ ?_ | refine LeO.bind ?_ (fun _ => ?_)
theorem impl_RemotestStation.mono : ∀ a0 a1 k, LeO (impl_RemotestStation.f k a0 a1) (impl_RemotestStation.f (k + 1) a0 a1) := by
 intro a0 a1 k
 obtain ⟨ih0, ih1⟩ := impl_RemotestStation.mono_l k
 unfold impl_RemotestStation.f
 repeat' with_reducible first | apply ih0 | apply ih1 | apply impl_areEntrances.mono | apply impl_stepsFrom.mono | exact LeO.refl _ | exact LeO.none _ | refine LeO.ite ?_ ?_ | refine LeO.bind ?_ (fun _ => ?_)
set_option maxHeartbeats 8000000 in
set_option maxRecDepth 100000 in
theorem impl_RemotestStation.calls (k : Nat) (A0 : Option Addr) (c0 : Nat) (l0 : List (S32)) (A1 : Option Addr) (c1 : Nat) (l1 : List Int) (r1 r2 : Int) (r3 : Bool) (w : World) (hr0 : Kd.C k32 w A0 l0.length l0) (hc0 : l0.length ≤ c0) (hr1 : Kd.C (Kd.int .i64) w A1 l1.length l1) (hc1 : l1.length ≤ c1) (h : impl_RemotestStation.f k l0 l1 = some (r1, r2, r3)) :
 Calls Tryz.prog 12 #[.slice A0 l0.length c0, .slice A1 l1.length c1] w fun e w' => e = .returned (.tuple #[.int .i64 r1, .int .i64 r2, .bool r3]) ∧ Below w.heap.size w w' := by
 have HR0 := Aside0.mk hr0
 have HC0 := Aside0.mk hc0
 clear hr0 hc0
 have HR1 := Aside0.mk hr1
 have HC1 := Aside0.mk hc1
 clear hr1 hc1
 have HB := Aside0.mk (Below.refl w.heap.size w)
 have H := h
 clear h
 unfold impl_RemotestStation.f at H
 have HC3 := Aside0.mk H
 clear H
 go_enter Tryz.func12, Tryz.ntmps12
 go_upto_region 1 with (fail)
 go_cut [19] (fun v19 wc => ∃ (kq : Nat) (x19_2 : Bool), v19 = .bool x19_2 ∧ Aside0 (impl_RemotestStation.j0 kq l0 l1 x19_2 = some (r1, r2, r3)) ∧ Aside0 (kq ≤ k) ∧ Aside0 (Below w.heap.size w wc))
 case first =>
  have H := HC3.out
  clear HC3
  replace H := bA H
  obtain ⟨t512, A4, H⟩ := H
  rcases Bool.eq_false_or_eq_true t512 with rfl | rfl
  ·replace H := iT rfl H
   have H' := Aside0.mk H
   clear H
   go_wp2_with (first | ((with_reducible refine gC 22 ?_); refine lA (some 13) Tryz.func22 (impl_areEntrances.calls k _ _ l0 _ _ l1 true _ ?side1 ?side2 ?side3 ?side4 A4.out) ?_; (case side1 => exact zCB HR0 HB); (case side2 => exact HC0.out); (case side3 => exact zCB HR1 HB); (case side4 => exact HC1.out); intro w6 hb; replace HB := uB HB hb; (try clear hb)))
   go_meet
   case rel => exact ⟨_, (((l1.length : Int) == 0)), rB, H', leB, (aB HB)⟩
  ·replace H := iF (by decide) H
   have H' := Aside0.mk H
   clear H
   go_wp2_with (first | ((with_reducible refine gC 22 ?_); refine lA (some 13) Tryz.func22 (impl_areEntrances.calls k _ _ l0 _ _ l1 false _ ?side1 ?side2 ?side3 ?side4 A4.out) ?_; (case side1 => exact zCB HR0 HB); (case side2 => exact HC0.out); (case side3 => exact zCB HR1 HB); (case side4 => exact HC1.out); intro w7 hb; replace HB := uB HB hb; (try clear hb)))
   go_meet
   case rel => exact ⟨_, (true), rB, H', leB, (aB HB)⟩
 case rest =>
  clear HC3
  try clear c1
  obtain ⟨kq, x19_2, rfl, HA, HJ2, HB⟩ := hcut
  cases kq with
  | zero => exact absurd HA.out (by simp [impl_RemotestStation.j0])
  | succ kj2 =>
   have H := HA.out
   clear HA
   simp only [impl_RemotestStation.j0] at H
   rcases Bool.eq_false_or_eq_true x19_2 with rfl | rfl
   ·replace H := iT rfl H
    simp only [Option.some.injEq, Prod.mk.injEq] at H
    obtain ⟨rfl, rfl, rfl⟩ := H
    go_wp2
    go_ret3
    exact ⟨eB, (bW HB)⟩
   ·replace H := iF (by decide) H
    replace H := bA H
    obtain ⟨t513, A9, H⟩ := H
    have H' := Aside0.mk H
    clear H
    go_wp2_with (first | ((with_reducible refine gC 23 ?_); refine zG (some 22) Tryz.func23 (impl_stepsFrom.calls kj2 _ _ l0 _ _ l1 t513 _ (zCB HR0 HB) (HC0.out) (zCB HR1 HB) (HC1.out) A9.out) ?_; rintro e w10 ⟨v514, rfl, ho0, hb⟩; refine ⟨_, rfl, ?_⟩; have HO515 := Aside0.mk (Kd.R_lower ho0 (below_size (bW HB))); replace HB := uB HB hb; (try clear hb); (try clear ho0); obtain ⟨Ao11, co11, eo11⟩ := Kd.R_slice HO515.out; subst eo11))
    (try simp only [Act.put, List.setIfInBounds_toArray, List.set_cons_zero, List.set_cons_succ])
    go_loopg [7, 8, 24] kj2 (fun kq v7 v8 v24 w' => ∃ (x7_2 x8_2 x24_2 : Int), v7 = .int .i64 x7_2 ∧ v8 = .int .i64 x8_2 ∧ v24 = .int .i64 x24_2 ∧ Aside0 (impl_RemotestStation.l0 kq x7_2 x8_2 t513 (t513.length : Int) x24_2 = some (r1, r2, r3)) ∧ Aside0 (kq ≤ kj2) ∧ Aside0 (Kd.R (Kd.int .i64) 3 w' w.heap.size (fun _ => True) (.slice Ao11 t513.length co11) t513) ∧ Aside0 (Below w.heap.size w w'))
    case atStart => exact ⟨(0), ((-1)), (0), rB, rB, rB, H', ⟨Nat.le_refl _⟩, ⟨upR HO515.out⟩, (aB HB)⟩
    case round =>
     clear H'
     try clear c1
     obtain ⟨x7_2, x8_2, x24_2, rfl, rfl, rfl, HA, HK2, HO_22, HB⟩ := hrel
     cases gk with
     | zero => exact absurd HA.out (by simp [impl_RemotestStation.l0])
     | succ k2 =>
      have H := HA.out
      clear HA
      simp only [impl_RemotestStation.l0] at H
      replace H := ifD H
      rcases H with ⟨H, -, c12b0⟩ | ⟨H, -, c12b0⟩
      ·replace H := zN H
       obtain ⟨c13b0, H⟩ := H
       replace H := zN H
       obtain ⟨c14b0, H⟩ := H
       replace H := ifD H
       rcases H with ⟨H, -, c15b0⟩ | ⟨H, -, c15b0⟩
       ·have H' := Aside0.mk H
        clear H
        obtain ⟨ad516, e516, hx516_0, p516, q516⟩ := zr HO_22 x24_2
        cases e516
        go_wp2
        go_roundg k2
        case measure => have := HJ2.out; have := HK2.out; omega
        case rel => exact ⟨(x24_2), (rd t513 x24_2), (wrap64 (x24_2 + 1)), rB, rB, rB, H', ⟨by have := HJ2.out; have := HK2.out; omega⟩, ⟨upR HO_22.out⟩, (aB HB)⟩
       ·have H' := Aside0.mk H
        clear H
        obtain ⟨ad516, e516, hx516_0, p516, q516⟩ := zr HO_22 x24_2
        cases e516
        go_wp2
        go_roundg k2
        case measure => have := HJ2.out; have := HK2.out; omega
        case rel => exact ⟨(x7_2), (x8_2), (wrap64 (x24_2 + 1)), rB, rB, rB, H', ⟨by have := HJ2.out; have := HK2.out; omega⟩, ⟨upR HO_22.out⟩, (aB HB)⟩
      ·simp only [Option.some.injEq, Prod.mk.injEq] at H
       obtain ⟨rfl, rfl, rfl⟩ := H
       go_wp2
       go_ret3
       exact ⟨eB, (bW HB)⟩

/-! ### spec_RemotestStation: function 13 -/
mutual
def spec_RemotestStation.j0 : Nat → List (S32) → List Int → Bool → Option (Int × Int × Bool)
 | 0, _, _, _ => none
 | k + 1, x0, x1, x18 => if x18 = true then (some (0, 0, false)) else ((spec_l17Steps.f k x0 x1).bind fun t518 => (spec_RemotestStation.l0 k t518 0 1))
def spec_RemotestStation.l0 : Nat → List Int → Int → Int → Option (Int × Int × Bool)
 | 0, _, _, _ => none
 | k + 1, x7, x8, x9 => if x9 < (x7.length : Int) then (if 0 ≤ x9 then (if 0 ≤ x8 then (if x8 < (x7.length : Int) then (if (rd x7 x9) > (rd x7 x8) then (spec_RemotestStation.l0 k x7 x9 (wrap64 (x9 + 1))) else (spec_RemotestStation.l0 k x7 x8 (wrap64 (x9 + 1)))) else (none)) else (none)) else (none)) else (if 0 ≤ x8 then (if x8 < (x7.length : Int) then (some (x8, rd x7 x8, true)) else (none)) else (none))
end
def spec_RemotestStation.f (k : Nat) (l0 : List (S32)) (l1 : List Int) : Option (Int × Int × Bool) := (spec_l17Asked.f k l0 l1).bind fun t517 => (if t517 = true then (spec_RemotestStation.j0 k l0 l1 ((l1.length : Int) == 0)) else (spec_RemotestStation.j0 k l0 l1 true))
theorem spec_RemotestStation.mono_l : ∀ k, (∀ y0 y1 y2, LeO (spec_RemotestStation.j0 k y0 y1 y2) (spec_RemotestStation.j0 (k + 1) y0 y1 y2)) ∧ (∀ y0 y1 y2, LeO (spec_RemotestStation.l0 k y0 y1 y2) (spec_RemotestStation.l0 (k + 1) y0 y1 y2))
 | 0 => ⟨fun _ _ _ r h => by simp [spec_RemotestStation.j0] at h, fun _ _ _ r h => by simp [spec_RemotestStation.l0] at h⟩
 | k + 1 => by
  obtain ⟨ih0, ih1⟩ := spec_RemotestStation.mono_l k
  refine ⟨?_, ?_⟩
  ·intro y0 y1 y2
   unfold spec_RemotestStation.j0
   repeat' with_reducible first | apply ih0 | apply ih1 | apply spec_l17Asked.mono | apply spec_l17Steps.mono | exact LeO.refl _ | exact LeO.none _ | refine LeO.ite ?_ ?_ | refine LeO.bind ?_ (fun _ => ?_)
  ·intro y0 y1 y2
   unfold spec_RemotestStation.l0
   repeat' with_reducible first | apply ih0 | apply ih1 | apply spec_l17Asked.mono | apply spec_l17Steps.mono | exact LeO.refl _ | exact LeO.none _ | refine LeO.ite ?_ ?_ | refine LeO.bind ?_ (fun _ => ?_)
theorem spec_RemotestStation.mono : ∀ a0 a1 k, LeO (spec_RemotestStation.f k a0 a1) (spec_RemotestStation.f (k + 1) a0 a1) := by
 intro a0 a1 k
 obtain ⟨ih0, ih1⟩ := spec_RemotestStation.mono_l k
 unfold spec_RemotestStation.f
 repeat' with_reducible first | apply ih0 | apply ih1 | apply spec_l17Asked.mono | apply spec_l17Steps.mono | exact LeO.refl _ | exact LeO.none _ | refine LeO.ite ?_ ?_ | refine LeO.bind ?_ (fun _ => ?_)
set_option maxHeartbeats 8000000 in
set_option maxRecDepth 100000 in
theorem spec_RemotestStation.calls (k : Nat) (A0 : Option Addr) (c0 : Nat) (l0 : List (S32)) (A1 : Option Addr) (c1 : Nat) (l1 : List Int) (r1 r2 : Int) (r3 : Bool) (w : World) (hr0 : Kd.C k32 w A0 l0.length l0) (hc0 : l0.length ≤ c0) (hr1 : Kd.C (Kd.int .i64) w A1 l1.length l1) (hc1 : l1.length ≤ c1) (h : spec_RemotestStation.f k l0 l1 = some (r1, r2, r3)) :
 Calls Tryz.prog 13 #[.slice A0 l0.length c0, .slice A1 l1.length c1] w fun e w' => e = .returned (.tuple #[.int .i64 r1, .int .i64 r2, .bool r3]) ∧ Below w.heap.size w w' := by
 have HR0 := Aside0.mk hr0
 have HC0 := Aside0.mk hc0
 clear hr0 hc0
 have HR1 := Aside0.mk hr1
 have HC1 := Aside0.mk hc1
 clear hr1 hc1
 have HB := Aside0.mk (Below.refl w.heap.size w)
 have H := h
 clear h
 unfold spec_RemotestStation.f at H
 have HC3 := Aside0.mk H
 clear H
 go_enter Tryz.func13, Tryz.ntmps13
 go_upto_region 1 with (fail)
 go_cut [18] (fun v18 wc => ∃ (kq : Nat) (x18_2 : Bool), v18 = .bool x18_2 ∧ Aside0 (spec_RemotestStation.j0 kq l0 l1 x18_2 = some (r1, r2, r3)) ∧ Aside0 (kq ≤ k) ∧ Aside0 (Below w.heap.size w wc))
 case first =>
  have H := HC3.out
  clear HC3
  replace H := bA H
  obtain ⟨t517, A4, H⟩ := H
  rcases Bool.eq_false_or_eq_true t517 with rfl | rfl
  ·replace H := iT rfl H
   have H' := Aside0.mk H
   clear H
   go_wp2_with (first | (go_at_call 24; (with_reducible refine (spec_l17Asked.calls k _ _ l0 _ _ l1 true _ ?side1 ?side2 ?side3 ?side4 A4.out).mono ?_); (case side1 => exact zCB HR0 HB); (case side2 => exact HC0.out); (case side3 => exact zCB HR1 HB); (case side4 => exact HC1.out); rintro e w6 ⟨rfl, hb⟩; replace HB := uB HB hb; (try clear hb)))
   go_meet
   case rel => exact ⟨_, (((l1.length : Int) == 0)), rB, H', leB, (aB HB)⟩
  ·replace H := iF (by decide) H
   have H' := Aside0.mk H
   clear H
   go_wp2_with (first | (go_at_call 24; (with_reducible refine (spec_l17Asked.calls k _ _ l0 _ _ l1 false _ ?side1 ?side2 ?side3 ?side4 A4.out).mono ?_); (case side1 => exact zCB HR0 HB); (case side2 => exact HC0.out); (case side3 => exact zCB HR1 HB); (case side4 => exact HC1.out); rintro e w7 ⟨rfl, hb⟩; replace HB := uB HB hb; (try clear hb)))
   go_meet
   case rel => exact ⟨_, (true), rB, H', leB, (aB HB)⟩
 case rest =>
  clear HC3
  try clear c1
  obtain ⟨kq, x18_2, rfl, HA, HJ2, HB⟩ := hcut
  cases kq with
  | zero => exact absurd HA.out (by simp [spec_RemotestStation.j0])
  | succ kj2 =>
   have H := HA.out
   clear HA
   simp only [spec_RemotestStation.j0] at H
   rcases Bool.eq_false_or_eq_true x18_2 with rfl | rfl
   ·replace H := iT rfl H
    simp only [Option.some.injEq, Prod.mk.injEq] at H
    obtain ⟨rfl, rfl, rfl⟩ := H
    go_wp2
    go_ret3
    exact ⟨eB, (bW HB)⟩
   ·replace H := iF (by decide) H
    replace H := bA H
    obtain ⟨t518, A9, H⟩ := H
    have H' := Aside0.mk H
    clear H
    go_wp2_with (first | (go_at_call 25; (with_reducible refine (spec_l17Steps.calls kj2 _ _ l0 _ _ l1 t518 _ ?side1 ?side2 ?side3 ?side4 A9.out).mono ?_); (case side1 => exact zCB HR0 HB); (case side2 => exact HC0.out); (case side3 => exact zCB HR1 HB); (case side4 => exact HC1.out); rintro e w10 ⟨v519, rfl, ho0, hb⟩; have HO520 := Aside0.mk (Kd.R_lower ho0 (below_size (bW HB))); replace HB := uB HB hb; (try clear hb); (try clear ho0)))
    go_loopg [8, 9] kj2 (fun kq v8 v9 w' => ∃ (x8_2 x9_2 : Int), v8 = .int .i64 x8_2 ∧ v9 = .int .i64 x9_2 ∧ Aside0 (spec_RemotestStation.l0 kq t518 x8_2 x9_2 = some (r1, r2, r3)) ∧ Aside0 (kq ≤ kj2) ∧ Aside0 (Kd.R (Kd.int .i64) 3 w' w.heap.size (fun _ => True) v519 t518) ∧ Aside0 (Below w.heap.size w w'))
    case atStart => exact ⟨(0), (1), rB, rB, H', ⟨Nat.le_refl _⟩, ⟨upR HO520.out⟩, (aB HB)⟩
    case round =>
     clear H'
     try clear c1
     obtain ⟨x8_2, x9_2, rfl, rfl, HA, HK2, HO_7, HB⟩ := hrel
     cases gk with
     | zero => exact absurd HA.out (by simp [spec_RemotestStation.l0])
     | succ k2 =>
      have H := HA.out
      clear HA
      simp only [spec_RemotestStation.l0] at H
      replace H := ifD H
      rcases H with ⟨H, -, c11b0⟩ | ⟨H, -, c11b0⟩
      ·replace H := zN H
       obtain ⟨c12b0, H⟩ := H
       replace H := zN H
       obtain ⟨c13b0, H⟩ := H
       replace H := zN H
       obtain ⟨c14b0, H⟩ := H
       replace H := ifD H
       rcases H with ⟨H, -, c15b0⟩ | ⟨H, -, c15b0⟩
       ·have H' := Aside0.mk H
        clear H
        obtain ⟨Ao16, co16, eo16⟩ := Kd.R_slice HO_7.out
        subst eo16
        obtain ⟨ad521, e521, hx521_0, p521, q521⟩ := zr HO_7 x9_2
        cases e521
        obtain ⟨ad522, e522, hx522_0, p522, q522⟩ := zr HO_7 x8_2
        obtain rfl : ad521 = ad522 := (by injection e522)
        go_wp2
        repeat (go_quiet (fail); try go_wp2)
        go_roundg k2
        case measure => have := HJ2.out; have := HK2.out; omega
        case rel => exact ⟨(x9_2), (wrap64 (x9_2 + 1)), rB, rB, H', ⟨by have := HJ2.out; have := HK2.out; omega⟩, ⟨upR HO_7.out⟩, (aB HB)⟩
       ·have H' := Aside0.mk H
        clear H
        obtain ⟨Ao17, co17, eo17⟩ := Kd.R_slice HO_7.out
        subst eo17
        obtain ⟨ad521, e521, hx521_0, p521, q521⟩ := zr HO_7 x9_2
        cases e521
        obtain ⟨ad522, e522, hx522_0, p522, q522⟩ := zr HO_7 x8_2
        obtain rfl : ad521 = ad522 := (by injection e522)
        go_wp2
        repeat (go_quiet (fail); try go_wp2)
        go_roundg k2
        case measure => have := HJ2.out; have := HK2.out; omega
        case rel => exact ⟨(x8_2), (wrap64 (x9_2 + 1)), rB, rB, H', ⟨by have := HJ2.out; have := HK2.out; omega⟩, ⟨upR HO_7.out⟩, (aB HB)⟩
      ·replace H := zN H
       obtain ⟨c18b0, H⟩ := H
       replace H := zN H
       obtain ⟨c19b0, H⟩ := H
       simp only [Option.some.injEq, Prod.mk.injEq] at H
       obtain ⟨rfl, rfl, rfl⟩ := H
       obtain ⟨Ao20, co20, eo20⟩ := Kd.R_slice HO_7.out
       subst eo20
       obtain ⟨ad523, e523, hx523_0, p523, q523⟩ := zr HO_7 x8_2
       cases e523
       go_wp2
       repeat (go_quiet (fail); try go_wp2)
       go_ret3
       exact ⟨eB, (bW HB)⟩

/-! ### spec_DrawCavesOf: function 26 -/
def spec_DrawCavesOf.f (k : Nat) (l0 : List Int) : Option ((List (S32))) := (spec_l1Cur_caves.f k l0 0 0).bind fun bt525 => (some bt525.1)
theorem spec_DrawCavesOf.mono : ∀ a0 k, LeO (spec_DrawCavesOf.f k a0) (spec_DrawCavesOf.f (k + 1) a0) := by
 intro a0 k
 unfold spec_DrawCavesOf.f
 repeat' with_reducible first | apply spec_l1Cur_caves.mono | exact LeO.refl _ | exact LeO.none _ | refine LeO.ite ?_ ?_ | refine LeO.bind ?_ (fun _ => ?_)
set_option maxHeartbeats 8000000 in
set_option maxRecDepth 100000 in
theorem spec_DrawCavesOf.calls (k : Nat) (A0 : Option Addr) (c0 : Nat) (l0 : List Int) (r : List (S32)) (w : World) (hr0 : Kd.C (Kd.int .u8) w A0 l0.length l0) (hc0 : l0.length ≤ c0) (h : spec_DrawCavesOf.f k l0 = some r) :
 Calls Tryz.prog 26 #[.slice A0 l0.length c0] w fun e w' => ∃ v0_ : Value, e = .returned (v0_) ∧ Kd.R k32 32 w' w.heap.size (fun _ => True) v0_ r ∧ Below w.heap.size w w' := by
 have hu54 := Tryz.underlying54
 have HR0 := Aside0.mk hr0
 have HC0 := Aside0.mk hc0
 clear hr0 hc0
 have HB := Aside0.mk (Below.refl w.heap.size w)
 have H := h
 clear h
 unfold spec_DrawCavesOf.f at H
 replace H := Option.bind_eq_some_iff.mp H
 obtain ⟨⟨t525, t528, t529⟩, A20, H⟩ := H
 replace H : (some t525) = some r := H
 have A2 := Aside0.mk A20
 clear A20
 obtain rfl := Option.some.inj H
 go_enter Tryz.func26, Tryz.ntmps26
 go_wp2_with (first | ((with_reducible refine gD 6 ?_); refine bxE 6 54 #[.slice A0 l0.length c0, .int .i64 0, .int .u64 0] fun gb524 w3 hg hbox hb => ?_; have GE524 := gB HB hg; have HI524 := Aside0.mk ((⟨_, _, hbox, (by rw [hg]; exact (below_size (bW HB)) : w.heap.size ≤ gb524), HR0.out⟩ : IsS54 w w3 gb524 l0 0 0)); replace HB := uB HB hb; clear hb hbox hg) | ((with_reducible refine gC 36 ?_); refine zG (some 8) Tryz.func36 (spec_l1Cur_caves.calls k gb524 l0 0 0 t525 t528 t529 w _ (zI HI524) (zB HB HI524) A2.out) ?_; rintro e w4 ⟨v526, rfl, ho0, hi, hb, hk⟩; refine ⟨_, rfl, ?_⟩; have HO527 := Aside0.mk (Kd.R_lower ho0 (below_size (zB HB HI524))); replace HB := Aside0.mk (hb); replace HI524 := Aside0.mk (hi); (try clear hb); (try clear hk); (try clear hi); (try clear ho0)))
 go_ret
 exact ⟨_, eB, upR HO527.out, zB HB HI524⟩

/-! ### spec_DrawCutStations: function 14 -/
def spec_DrawCutStations.f (k : Nat) (l0 : List Int) : Option ((List (S32))) := (spec_DrawCavesOf.f k l0).bind fun t530 => (some t530)
theorem spec_DrawCutStations.mono : ∀ a0 k, LeO (spec_DrawCutStations.f k a0) (spec_DrawCutStations.f (k + 1) a0) := by
 intro a0 k
 unfold spec_DrawCutStations.f
 repeat' with_reducible first | apply spec_DrawCavesOf.mono | exact LeO.refl _ | exact LeO.none _ | refine LeO.ite ?_ ?_ | refine LeO.bind ?_ (fun _ => ?_)
set_option maxHeartbeats 8000000 in
set_option maxRecDepth 100000 in
theorem spec_DrawCutStations.calls (k : Nat) (A0 : Option Addr) (c0 : Nat) (l0 : List Int) (r : List (S32)) (w : World) (hr0 : Kd.C (Kd.int .u8) w A0 l0.length l0) (hc0 : l0.length ≤ c0) (h : spec_DrawCutStations.f k l0 = some r) :
 Calls Tryz.prog 14 #[.slice A0 l0.length c0] w fun e w' => ∃ v0_ : Value, e = .returned (v0_) ∧ Kd.R k32 32 w' w.heap.size (fun _ => True) v0_ r ∧ Below w.heap.size w w' := by
 have HR0 := Aside0.mk hr0
 have HC0 := Aside0.mk hc0
 clear hr0 hc0
 have HB := Aside0.mk (Below.refl w.heap.size w)
 have H := h
 clear h
 unfold spec_DrawCutStations.f at H
 replace H := bA H
 obtain ⟨t530, A2, H⟩ := H
 obtain rfl := Option.some.inj H
 go_enter Tryz.func14, Tryz.ntmps14
 go_wp2_with (first | ((with_reducible refine gC 26 ?_); refine zG (some 4) Tryz.func26 (spec_DrawCavesOf.calls k _ _ l0 t530 _ (zC HR0) (HC0.out) A2.out) ?_; rintro e w3 ⟨v531, rfl, ho0, hb⟩; refine ⟨_, rfl, ?_⟩; have HO532 := Aside0.mk (Kd.R_lower ho0 (below_size (bW HB))); replace HB := uB HB hb; (try clear hb); (try clear ho0)))
 go_ret
 exact ⟨_, eB, upR HO532.out, (bW HB)⟩

-- NOT PRINTED: function 67 (slices_IndexFunc_int_int)

end Go.Proofs.YtmfidodcpbochaaGreat.QFnSteps
