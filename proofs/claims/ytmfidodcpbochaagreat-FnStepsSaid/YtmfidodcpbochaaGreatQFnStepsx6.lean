/- Contracts of Go functions that FnSteps reaches: the call computes what the plain function says. No condition. -/
import Derived.Test.YtmfidodcpbochaaGreatQFnStepsx0
import Derived.Test.YtmfidodcpbochaaGreatQFnStepsx5
namespace Go.Proofs.YtmfidodcpbochaaGreat.QFnSteps
open Go.RowKit Go.Proofs.YtmfidodcpbochaaGreatW.PrintWords Go.Proofs.YtmfidodcpbochaaGreatW.PrintLast Go.Proofs.YtmfidodcpbochaaGreatW.PrintMore
attribute [local go_sem] max2_int min2_int max_two min_two max_three min_three max_four min_four   -- for this text's walks alone
set_option linter.unusedVariables false
set_option linter.unusedSimpArgs false

/-! ### impl_areLegs: function 27 -/
def impl_areLegs.l0 : Nat → List (S32) → List (S32) → Int → Int → Option (Bool)
 | 0, _, _, _, _ => none
 | k + 1, x0, x5, x6, x7 => if x7 < x6 then (if 0 ≤ x7 then (if x7 < (x5.length : Int) then ((impl_IsLeg.f ((rd_T32 x5 x7).f0) ((rd_T32 x5 x7).f1) ((rd_T32 x5 x7).f2) ((rd_T32 x5 x7).f3) ((rd_T32 x5 x7).f4)).bind fun t414 => (if t414 = true then (impl_areLegs.l0 k x0 x5 x6 (wrap64 (x7 + 1))) else (some false))) else (none)) else (none)) else (some (decide ((x0.length : Int) ≤ 12)))
def impl_areLegs.f (k : Nat) (l0 : List (S32)) : Option (Bool) := impl_areLegs.l0 k l0 l0 (l0.length : Int) 0
theorem impl_areLegs.mono_l : ∀ k, (∀ y0 y1 y2 y3, LeO (impl_areLegs.l0 k y0 y1 y2 y3) (impl_areLegs.l0 (k + 1) y0 y1 y2 y3))
 | 0 => fun _ _ _ _ r h => by simp [impl_areLegs.l0] at h
 | k + 1 => by
  have ih0 := impl_areLegs.mono_l k
  ·intro y0 y1 y2 y3
   unfold impl_areLegs.l0
   repeat' with_reducible first | apply ih0 | exact LeO.refl _ | exact LeO.none _ | refine LeO.ite ?_ ?_ | refine LeO.bind ?_ (fun _ => ?_)
theorem impl_areLegs.mono : ∀ a0 k, LeO (impl_areLegs.f k a0) (impl_areLegs.f (k + 1) a0) := by
 intro a0 k
 have ih0 := impl_areLegs.mono_l k
 unfold impl_areLegs.f
 repeat' with_reducible first | apply ih0 | exact LeO.refl _ | exact LeO.none _ | refine LeO.ite ?_ ?_ | refine LeO.bind ?_ (fun _ => ?_)
set_option maxHeartbeats 8000000 in
set_option maxRecDepth 100000 in
theorem impl_areLegs.calls (k : Nat) (A0 : Option Addr) (c0 : Nat) (l0 : List (S32)) (r : Bool) (w : World) (hr0 : Kd.C k32 w A0 l0.length l0) (hc0 : l0.length ≤ c0) (h : impl_areLegs.f k l0 = some r) :
 Calls Tryz.prog 27 #[.slice A0 l0.length c0] w fun e w' => e = .returned (.bool r) ∧ Below w.heap.size w w' := by
 have hu32 := Tryz.underlying32
 have HR0 := Aside0.mk hr0
 have HC0 := Aside0.mk hc0
 clear hr0 hc0
 have HB := Aside0.mk (Below.refl w.heap.size w)
 have H : (impl_areLegs.l0 k l0 l0 (l0.length : Int) 0) = some r := h
 clear h
 have H' := Aside0.mk H
 clear H
 go_enter Tryz.func27, Tryz.ntmps27
 go_wp2
 go_loopg [7] k (fun kq v7 w' => ∃ (x7_1 : Int), v7 = .int .i64 x7_1 ∧ Aside0 (impl_areLegs.l0 kq l0 l0 (l0.length : Int) x7_1 = some r) ∧ Aside0 (kq ≤ k) ∧ Aside0 (Below w.heap.size w w'))
 case atStart => exact ⟨(0), rB, H', ⟨Nat.le_refl _⟩, (aB HB)⟩
 case round =>
  clear H'
  obtain ⟨x7_1, rfl, HA, HK1, HB⟩ := hrel
  cases gk with
  | zero => exact absurd HA.out (by simp [impl_areLegs.l0])
  | succ k1 =>
   have H := HA.out
   clear HA
   simp only [impl_areLegs.l0] at H
   replace H := ifD H
   rcases H with ⟨H, -, c2b0⟩ | ⟨H, -, c2b0⟩
   ·replace H := zN H
    obtain ⟨c3b0, H⟩ := H
    replace H := zN H
    obtain ⟨c4b0, H⟩ := H
    replace H := bA H
    obtain ⟨t414, A5, H⟩ := H
    rcases Bool.eq_false_or_eq_true t414 with rfl | rfl
    ·replace H := iT rfl H
     have H' := Aside0.mk H
     clear H
     obtain ⟨ad412, e412, hx412_0, hx412_1, hx412_2, hx412_3, hx412_4, p412, q412⟩ := zT HR0 HB x7_1
     cases e412
     go_wp2_with (first | ((with_reducible refine gD 4 ?_); refine bxE 4 32 #[.int .i64 0, .int .i64 0, .int .i64 0, .int .i64 0, .int .i64 0] fun gb413 w7 hg hbox hb => ?_; have BK413 := Aside0.mk hbox; have GE413 := gB HB hg; replace HB := uB HB hb; clear hb hbox hg; have ⟨hcz8_0, hcz8_1, hcz8_2, hcz8_3, hcz8_4, hfz8_0⟩ := cz5 BK413) | ((with_reducible refine gC 44 ?_); refine lA (some 12) Tryz.func44 (impl_IsLeg.calls ((rd_T32 l0 x7_1).f0) ((rd_T32 l0 x7_1).f1) ((rd_T32 l0 x7_1).f2) ((rd_T32 l0 x7_1).f3) ((rd_T32 l0 x7_1).f4) true _ A5.out) ?_; intro w9 hb; replace BK413 := uQ BK413 hb #[.int .i64 ((rd_T32 l0 x7_1).f0), .int .i64 ((rd_T32 l0 x7_1).f1), .int .i64 ((rd_T32 l0 x7_1).f2), .int .i64 ((rd_T32 l0 x7_1).f3), .int .i64 ((rd_T32 l0 x7_1).f4)]; replace HB := uB HB hb; (try clear hb)))
     go_roundg k1
     case measure => have := HK1.out; omega
     case rel => exact ⟨(wrap64 (x7_1 + 1)), rB, H', ⟨by have := HK1.out; omega⟩, (aB HB)⟩
    ·replace H := iF (by decide) H
     obtain rfl := Option.some.inj H
     obtain ⟨ad412, e412, hx412_0, hx412_1, hx412_2, hx412_3, hx412_4, p412, q412⟩ := zT HR0 HB x7_1
     cases e412
     go_wp2_with (first | ((with_reducible refine gD 4 ?_); refine bxE 4 32 #[.int .i64 0, .int .i64 0, .int .i64 0, .int .i64 0, .int .i64 0] fun gb413 w10 hg hbox hb => ?_; have BK413 := Aside0.mk hbox; have GE413 := gB HB hg; replace HB := uB HB hb; clear hb hbox hg; have ⟨hcz11_0, hcz11_1, hcz11_2, hcz11_3, hcz11_4, hfz11_0⟩ := cz5 BK413) | ((with_reducible refine gC 44 ?_); refine lA (some 12) Tryz.func44 (impl_IsLeg.calls ((rd_T32 l0 x7_1).f0) ((rd_T32 l0 x7_1).f1) ((rd_T32 l0 x7_1).f2) ((rd_T32 l0 x7_1).f3) ((rd_T32 l0 x7_1).f4) false _ A5.out) ?_; intro w12 hb; replace BK413 := uQ BK413 hb #[.int .i64 ((rd_T32 l0 x7_1).f0), .int .i64 ((rd_T32 l0 x7_1).f1), .int .i64 ((rd_T32 l0 x7_1).f2), .int .i64 ((rd_T32 l0 x7_1).f3), .int .i64 ((rd_T32 l0 x7_1).f4)]; replace HB := uB HB hb; (try clear hb)))
     go_ret
     exact ⟨eB, (bW HB)⟩
   ·obtain rfl := Option.some.inj H
    go_wp2
    go_ret
    exact ⟨eB, (bW HB)⟩

/-! ### impl_strictly: function 38 -/
def impl_strictly.l0 : Nat → List Int → Int → Int → List Int → Int → Int → Option (Bool)
 | 0, _, _, _, _, _, _ => none
 | k + 1, x0, x1, x2, x9, x10, x11 => if x11 < x10 then (if 0 ≤ x11 then (if x11 < (x9.length : Int) then ((impl_within.f (rd x9 x11) x1 x2).bind fun t416 => (if t416 = true then (if x11 > 0 then (if 0 ≤ (wrap64 (x11 - 1)) then (if (wrap64 (x11 - 1)) < (x0.length : Int) then (if (rd x0 (wrap64 (x11 - 1))) ≥ (rd x9 x11) then (some false) else (impl_strictly.l0 k x0 x1 x2 x9 x10 (wrap64 (x11 + 1)))) else (none)) else (none)) else (impl_strictly.l0 k x0 x1 x2 x9 x10 (wrap64 (x11 + 1)))) else (some false))) else (none)) else (none)) else (some true)
def impl_strictly.f (k : Nat) (l0 : List Int) (a1 a2 : Int) : Option (Bool) := impl_strictly.l0 k l0 a1 a2 l0 (l0.length : Int) 0
theorem impl_strictly.mono_l : ∀ k, (∀ y0 y1 y2 y3 y4 y5, LeO (impl_strictly.l0 k y0 y1 y2 y3 y4 y5) (impl_strictly.l0 (k + 1) y0 y1 y2 y3 y4 y5))
 | 0 => fun _ _ _ _ _ _ r h => by simp [impl_strictly.l0] at h
 | k + 1 => by
  have ih0 := impl_strictly.mono_l k
  ·intro y0 y1 y2 y3 y4 y5
   unfold impl_strictly.l0
   repeat' with_reducible first | apply ih0 | exact LeO.refl _ | exact LeO.none _ | refine LeO.ite ?_ ?_ | refine LeO.bind ?_ (fun _ => ?_)
theorem impl_strictly.mono : ∀ a0 a1 a2 k, LeO (impl_strictly.f k a0 a1 a2) (impl_strictly.f (k + 1) a0 a1 a2) := by
 intro a0 a1 a2 k
 have ih0 := impl_strictly.mono_l k
 unfold impl_strictly.f
 repeat' with_reducible first | apply ih0 | exact LeO.refl _ | exact LeO.none _ | refine LeO.ite ?_ ?_ | refine LeO.bind ?_ (fun _ => ?_)
set_option maxHeartbeats 8000000 in
set_option maxRecDepth 100000 in
theorem impl_strictly.calls (k : Nat) (A0 : Option Addr) (c0 : Nat) (l0 : List Int) (a1 a2 : Int) (r : Bool) (w : World) (hr0 : Kd.C (Kd.int .i64) w A0 l0.length l0) (hc0 : l0.length ≤ c0) (h : impl_strictly.f k l0 a1 a2 = some r) :
 Calls Tryz.prog 38 #[.slice A0 l0.length c0, .int .i64 a1, .int .i64 a2] w fun e w' => e = .returned (.bool r) ∧ Drawn0 w w' := by
 have HR0 := Aside0.mk hr0
 have HC0 := Aside0.mk hc0
 clear hr0 hc0
 have H := h
 clear h
 unfold impl_strictly.f at H
 have H' := Aside0.mk H
 clear H
 go_enter Tryz.func38, Tryz.ntmps38
 go_wp2
 go_loopg [11] k (fun kq v11 w' => ∃ (x11_1 : Int), v11 = .int .i64 x11_1 ∧ Aside0 (impl_strictly.l0 kq l0 a1 a2 l0 (l0.length : Int) x11_1 = some r) ∧ Aside0 (kq ≤ k) ∧ Drawn0 w w')
 case atStart => exact ⟨(0), rB, H', ⟨Nat.le_refl _⟩, by repeat (first | exact Drawn0.refl _ | apply Drawn0.step)⟩
 case round =>
  clear H'
  obtain ⟨x11_1, rfl, HA, HK1, ⟨m1, rfl⟩⟩ := hrel
  cases gk with
  | zero => exact absurd HA.out (by simp [impl_strictly.l0])
  | succ k1 =>
   have H := HA.out
   clear HA
   simp only [impl_strictly.l0] at H
   replace H := ifD H
   rcases H with ⟨H, -, c4b0⟩ | ⟨H, -, c4b0⟩
   ·replace H := zN H
    obtain ⟨c5b0, H⟩ := H
    replace H := zN H
    obtain ⟨c6b0, H⟩ := H
    replace H := bA H
    obtain ⟨t416, A7, H⟩ := H
    rcases Bool.eq_false_or_eq_true t416 with rfl | rfl
    ·replace H := iT rfl H
     replace H := ifD H
     rcases H with ⟨H, -, c9b0⟩ | ⟨H, -, c9b0⟩
     ·obtain ⟨ji10, hji10⟩ : ∃ j_ : Int, (wrap64 (x11_1 - 1)) = j_ := ⟨_, rfl⟩
      replace H : (if 0 ≤ (ji10) then (if (ji10) < (l0.length : Int) then (if (rd l0 (ji10)) ≥ (rd l0 x11_1) then (some false) else (impl_strictly.l0 k1 l0 a1 a2 l0 (l0.length : Int) (wrap64 (x11_1 + 1)))) else (none)) else (none)) = some r := by first | (rw [hji10] at H; exact H) | (simp only [hji10] at H ⊢; exact H)
      (try rw [hji10] at A7)
      have hji10w : (IntKind.i64.wrap (x11_1 - 1)) = ji10 := (i64_w _).trans hji10
      replace H := zN H
      obtain ⟨c11b0, H⟩ := H
      replace H := zN H
      obtain ⟨c12b0, H⟩ := H
      replace H := ifD H
      rcases H with ⟨H, -, c13b0⟩ | ⟨H, -, c13b0⟩
      ·obtain rfl := Option.some.inj H
       have p415 : 0 ≤ (x11_1 : Int) := of_decide_eq_true asmB
       have q415 : x11_1 < (l0.length : Int) := of_decide_eq_true asmB
       obtain ⟨ad415, e415, hx415_0⟩ := Kd.at_int HR0.out x11_1 p415 q415
       cases e415
       replace p415 := eq_true p415
       replace q415 := eq_true q415
       go_wp2_with (first | ((with_reducible refine gC 62 ?_); refine lA (some 19) Tryz.func62 (impl_within.calls (rd l0 x11_1) a1 a2 true _ A7.out) ?_; rintro _ ⟨nd, rfl⟩; have p417 : 0 ≤ ((ji10) : Int) := of_decide_eq_true asmB; have q417 : (ji10) < (l0.length : Int) := of_decide_eq_true asmB; obtain ⟨ad417, e417, hx417_0⟩ := Kd.at_int HR0.out (ji10) p417 q417; obtain rfl : ad415 = ad417 := (by injection e417); replace p417 := eq_true p417; replace q417 := eq_true q417))
       go_ret
       exact ⟨by first | rfl | (simp; done) | (simp only [← hji10] <;> (first | rfl | simp)) | (simp [*]; done), by repeat (first | exact Drawn0.refl _ | apply Drawn0.step)⟩
      ·have H' := Aside0.mk H
       clear H
       have p415 : 0 ≤ (x11_1 : Int) := of_decide_eq_true asmB
       have q415 : x11_1 < (l0.length : Int) := of_decide_eq_true asmB
       obtain ⟨ad415, e415, hx415_0⟩ := Kd.at_int HR0.out x11_1 p415 q415
       cases e415
       replace p415 := eq_true p415
       replace q415 := eq_true q415
       go_wp2_with (first | ((with_reducible refine gC 62 ?_); refine lA (some 19) Tryz.func62 (impl_within.calls (rd l0 x11_1) a1 a2 true _ A7.out) ?_; rintro _ ⟨nd, rfl⟩; have p417 : 0 ≤ ((ji10) : Int) := of_decide_eq_true asmB; have q417 : (ji10) < (l0.length : Int) := of_decide_eq_true asmB; obtain ⟨ad417, e417, hx417_0⟩ := Kd.at_int HR0.out (ji10) p417 q417; obtain rfl : ad415 = ad417 := (by injection e417); replace p417 := eq_true p417; replace q417 := eq_true q417))
       go_roundg k1
       case measure => have := HK1.out; omega
       case rel => exact ⟨(wrap64 (x11_1 + 1)), rB, H', ⟨by have := HK1.out; omega⟩, by repeat (first | exact Drawn0.refl _ | apply Drawn0.step)⟩
     ·have H' := Aside0.mk H
      clear H
      have p415 : 0 ≤ (x11_1 : Int) := of_decide_eq_true asmB
      have q415 : x11_1 < (l0.length : Int) := of_decide_eq_true asmB
      obtain ⟨ad415, e415, hx415_0⟩ := Kd.at_int HR0.out x11_1 p415 q415
      cases e415
      replace p415 := eq_true p415
      replace q415 := eq_true q415
      go_wp2_with (first | ((with_reducible refine gC 62 ?_); refine lA (some 19) Tryz.func62 (impl_within.calls (rd l0 x11_1) a1 a2 true _ A7.out) ?_; rintro _ ⟨nd, rfl⟩))
      go_roundg k1
      case measure => have := HK1.out; omega
      case rel => exact ⟨(wrap64 (x11_1 + 1)), rB, H', ⟨by have := HK1.out; omega⟩, by repeat (first | exact Drawn0.refl _ | apply Drawn0.step)⟩
    ·replace H := iF (by decide) H
     obtain rfl := Option.some.inj H
     have p415 : 0 ≤ (x11_1 : Int) := of_decide_eq_true asmB
     have q415 : x11_1 < (l0.length : Int) := of_decide_eq_true asmB
     obtain ⟨ad415, e415, hx415_0⟩ := Kd.at_int HR0.out x11_1 p415 q415
     cases e415
     replace p415 := eq_true p415
     replace q415 := eq_true q415
     go_wp2_with (first | ((with_reducible refine gC 62 ?_); refine lA (some 19) Tryz.func62 (impl_within.calls (rd l0 x11_1) a1 a2 false _ A7.out) ?_; rintro _ ⟨nd, rfl⟩))
     go_ret
     exact ⟨rB, by repeat (first | exact Drawn0.refl _ | apply Drawn0.step)⟩
   ·obtain rfl := Option.some.inj H
    go_wp2
    go_ret
    exact ⟨rB, by repeat (first | exact Drawn0.refl _ | apply Drawn0.step)⟩

/-! ### impl_areEntrances: function 22 -/
def impl_areEntrances.f (k : Nat) (l0 : List (S32)) (l1 : List Int) : Option (Bool) := (impl_areLegs.f k l0).bind fun t418 => (if t418 = true then ((impl_strictly.f k l1 0 7).bind fun t419 => (some t419)) else (some false))
theorem impl_areEntrances.mono : ∀ a0 a1 k, LeO (impl_areEntrances.f k a0 a1) (impl_areEntrances.f (k + 1) a0 a1) := by
 intro a0 a1 k
 unfold impl_areEntrances.f
 repeat' with_reducible first | apply impl_areLegs.mono | apply impl_strictly.mono | exact LeO.refl _ | exact LeO.none _ | refine LeO.ite ?_ ?_ | refine LeO.bind ?_ (fun _ => ?_)
set_option maxHeartbeats 8000000 in
set_option maxRecDepth 100000 in
theorem impl_areEntrances.calls (k : Nat) (A0 : Option Addr) (c0 : Nat) (l0 : List (S32)) (A1 : Option Addr) (c1 : Nat) (l1 : List Int) (r : Bool) (w : World) (hr0 : Kd.C k32 w A0 l0.length l0) (hc0 : l0.length ≤ c0) (hr1 : Kd.C (Kd.int .i64) w A1 l1.length l1) (hc1 : l1.length ≤ c1) (h : impl_areEntrances.f k l0 l1 = some r) :
 Calls Tryz.prog 22 #[.slice A0 l0.length c0, .slice A1 l1.length c1] w fun e w' => e = .returned (.bool r) ∧ Below w.heap.size w w' := by
 have HR0 := Aside0.mk hr0
 have HC0 := Aside0.mk hc0
 clear hr0 hc0
 have HR1 := Aside0.mk hr1
 have HC1 := Aside0.mk hc1
 clear hr1 hc1
 have HB := Aside0.mk (Below.refl w.heap.size w)
 have H := h
 clear h
 unfold impl_areEntrances.f at H
 replace H := bA H
 obtain ⟨t418, A3, H⟩ := H
 rcases Bool.eq_false_or_eq_true t418 with rfl | rfl
 ·replace H := iT rfl H
  replace H := bA H
  obtain ⟨t419, A5, H⟩ := H
  obtain rfl := Option.some.inj H
  go_enter Tryz.func22, Tryz.ntmps22
  go_wp2_with (first | ((with_reducible refine gC 27 ?_); refine lA (some 6) Tryz.func27 (impl_areLegs.calls k _ _ l0 true _ ?side1 ?side2 A3.out) ?_; (case side1 => exact zC HR0); (case side2 => exact HC0.out); intro w6 hb; replace HB := uB HB hb; (try clear hb)) | (go_at_call 38; (with_reducible refine (impl_strictly.calls k _ _ l1 0 7 t419 _ ?side1 ?side2 A5.out).mono ?_); (case side1 => exact zCB HR1 HB); (case side2 => exact HC1.out); rintro e w' ⟨rfl, ⟨nd, rfl⟩⟩))
  go_ret
  exact ⟨eB, (bW HB)⟩
 ·replace H := iF (by decide) H
  obtain rfl := Option.some.inj H
  go_enter Tryz.func22, Tryz.ntmps22
  go_wp2_with (first | ((with_reducible refine gC 27 ?_); refine lA (some 6) Tryz.func27 (impl_areLegs.calls k _ _ l0 false _ ?side1 ?side2 A3.out) ?_; (case side1 => exact zC HR0); (case side2 => exact HC0.out); intro w7 hb; replace HB := uB HB hb; (try clear hb)))
  go_ret
  exact ⟨eB, (bW HB)⟩

/-! ### slices_Repeat_int_int: function 39 -/
-- calls: none
def slices_Repeat_int_int.f (l0 : List Int) (a1 : Int) : Option (List Int) := if l0 = [-1] ∧ a1 = 8 then some (List.replicate 8 (-1)) else none
theorem repSrc {w w1 : World} {ad : Addr} (hb : Below w.heap.size w w1) (hx : w.cell? ad = some (.int .i64 (-1))) : ∀ (j : Nat) (v : Value), [Value.int .i64 (-1)][j]? = some v → w1.cell? (ad.add j) = some v := by
 intro j v hj
 cases j with
 | zero =>
  have e : ad.add 0 = ad := by cases ad; simp [Addr.add]
  rw [e, (hb.cell (World.block_lt_of_cell? _ _ hx)).trans hx]
  exact hj
 | succ j => simp at hj
theorem row8 {w : World} {base : Nat} {v : Value} (h : Kd.R (Kd.int .i64) 3 w base (fun _ => True) v (List.replicate (8 : Int).toNat 0)) : ∃ (g c : Nat) (rest : List Value), v = .slice (some ⟨g, 0, none⟩) 8 c ∧ base ≤ g ∧ 8 + rest.length = c ∧ c ≤ maxLen ∧ w.heap[g]? = some (.cells ((List.replicate 0 (Value.int .i64 (-1)) ++ List.replicate (8 - 0) (Value.int .i64 0)) ++ rest).toArray 3 (0, 0)) := by
 have ho := Kd.own_of_R h
 rcases ho.2 with ⟨hv, hn⟩ | ⟨g, cap, cur, hv, hg, hh, h1, h2, h3, h4⟩
 ·simp at hn
 ·refine ⟨g, cap, cur.toList.drop 8, hv, hg, ?_, h2, ?_⟩
  ·rw [List.length_drop, Array.length_toList]; have : 8 ≤ cap := h1; omega
  ·rw [hh]
   have e : cur.toList.take 8 = List.replicate 8 (Value.int .i64 0) := h4
   have e2 : (List.replicate 0 (Value.int .i64 (-1)) ++ List.replicate (8 - 0) (Value.int .i64 0)) ++ cur.toList.drop 8 = cur.toList := by
    show List.replicate 8 (Value.int .i64 0) ++ cur.toList.drop 8 = cur.toList
    rw [← e, List.take_append_drop]
   rw [e2]
set_option maxHeartbeats 4000000 in
set_option maxRecDepth 100000 in
def rowR (n : Nat) : List Value := (List.replicate n (.int .i64 (-1)) ++ List.replicate (8 - n) (.int .i64 0))
set_option maxHeartbeats 4000000 in
set_option maxRecDepth 100000 in
theorem slices_Repeat_int_int.one (ad : Addr) (c0 : Nat) (w : World) (hx : w.cell? ad = some (.int .i64 (-1))) :
 Calls Tryz.prog 39 #[.slice (some ad) 1 c0, .int .i64 8] w fun e w' => ∃ v0_ : Value, e = .returned (v0_) ∧ Kd.R (Kd.int .i64) 3 w' w.heap.size (fun _ => True) v0_ (List.replicate 8 (-1)) ∧ Below w.heap.size w w' := by
 have e1 : bits BinOp.and IntKind.u64 1 4294967295 = 1 := by decide
 have e2 : bits BinOp.and IntKind.u64 8 4294967295 = 8 := by decide
 have e3 : bits BinOp.and IntKind.u64 0 4294967295 = 0 := by decide
 have hsz : (Tryz.prog.info? 3).map (·.size) = some 1 := by kernel_rfl
 have HB := Aside0.mk (Below.refl w.heap.size w)
 go_enter Tryz.func39, Tryz.ntmps39
 go_wp2_with (first | ((with_reducible refine gate_dst (N := 30) rfl ?_); refine Kd.R_make (Kd.int .i64) _ 3 rfl (N := 30) rfl 25 _ _ rfl 8 rfl rfl Tryz.underlying25 (.int .i64 0) 8 info3 rfl (by decide) (by omega) 0 (ok := fun _ => True) (okp := fun _ => True) rfl (fun _ hk => hk) trivial (by omega) (by omega) (Below.refl _ _) (Nat.le_refl _) ?_; intro v1 w1 ho hb hg_ hnew_; clear hg_ hnew_; obtain ⟨g, c, rest, hv, hgB, hc1, hc2, hh⟩ := row8 ho; subst hv; have hgx := Aside0.mk hh; have HB1 := Aside0.mk (below_step (bW HB) hb); have hsr := repSrc hb hx; have hx1 : w1.cell? ad = some (.int .i64 (-1)) := (hb.cell (World.block_lt_of_cell? _ _ hx)).trans hx; clear HB ho hb hh; have HB := HB1; clear HB1) | ((with_reducible refine gate_builtin (b := .copy) (xs := #[.tmp 31, .tmp 32]) rfl ?_); go_loud (refine wpList_copy_splice rfl (.tmp 31) (.tmp 32) 25 25 rfl 3 Tryz.underlying25 hsz (some ⟨g, 0, none⟩) (some ad) 8 _ 1 _ rfl rfl g 0 (rowR 0 ++ rest) 3 hgx.out [.int .i64 (-1)] rfl (fun _ => ⟨rfl, ad, rfl, hsr⟩) (by rw [List.length_append]; show 0 + 1 ≤ 8 + rest.length; omega) (by intro v hv; rw [List.mem_singleton.1 hv]; rfl) _ w HB.out hgB ?_); intro w2 hc_ hb_; have hgx2 : Aside0 (w2.heap[g]? = some (.cells (rowR 1 ++ rest).toArray 3 (0, 0))) := ⟨by have h_ := hc_.out; rw [h_]; simp [splice, rowR, List.replicate]⟩; have HB2 : Aside0 (Below w.heap.size w w2) := ⟨hb_⟩; clear hc_ hb_ HB hgx; have hgx := hgx2; have HB := HB2; clear hgx2 HB2) | go_in)
 go_loopw [8] (fun v wr => ∃ n : Nat, (n = 1 ∨ n = 2 ∨ n = 4 ∨ n = 8) ∧ v = .int .i64 n ∧ Aside0 (wr.heap[g]? = some (.cells (rowR n ++ rest).toArray 3 (0, 0))) ∧ Aside0 (Below w.heap.size w wr)) (fun v _ => 8 - (intOf v).toNat)
 case atStart => exact ⟨1, Or.inl rfl, rfl, hgx, HB⟩
 case round =>
  clear hgx HB hx1
  obtain ⟨n, hn, rfl, hgx, HB⟩ := hrel
  rcases hn with rfl | rfl | rfl | rfl
  ·go_wp2
   have hq_ : ((1 : Int) ≤ (c : Int)) = True := eq_true (by omega)
   replace hgx : Aside0 (wr.drew.heap[g]? = some (.cells (rowR 1 ++ rest).toArray 3 (0, 0))) := ⟨hgx.out⟩
   replace HB : Aside0 (Below w.heap.size w wr.drew) := ⟨below_drew HB.out⟩
   refine start_ (n := 10) (S := fun w' => True) (ds := []) #[false, false, false, false, false, false, false, false, false, false] (by kernel_rfl) rfl rfl trivial (fun hHeld => ?_)
   generalize wr.drew = wd at hgx HB hHeld ⊢
   refine pure_ (i := 0) (N := some 38) (v := ?_) (a' := ?_) #[true, false, false, false, false, false, false, false, false, false] rfl rfl (by kernel_rfl) (fun _ _ _ h => h) (Or.inl ⟨by rfl, ?_⟩) ?_ ?_
   rotate_left
   ·intro w'
    go_simp
    with_reducible rfl
   rotate_left
   ·simp only [Act.put, List.setIfInBounds_toArray, List.set_cons_zero, List.set_cons_succ, i64_w, i32_w]
    rfl
   refine pure_ (i := 1) (N := some 39) (v := ?_) (a' := ?_) #[true, true, false, false, false, false, false, false, false, false] rfl rfl (by kernel_rfl) (fun _ _ _ h => h) (Or.inl ⟨by rfl, ?_⟩) ?_ ?_
   rotate_left
   ·intro w'
    go_simp
    with_reducible rfl
   rotate_left
   ·simp only [Act.put, List.setIfInBounds_toArray, List.set_cons_zero, List.set_cons_succ, i64_w, i32_w]
    rfl
   refine pure_ (i := 2) (N := some 40) (v := ?_) (a' := ?_) #[true, true, true, false, false, false, false, false, false, false] rfl rfl (by kernel_rfl) (fun _ _ _ h => h) (Or.inl ⟨by rfl, ?_⟩) ?_ ?_
   rotate_left
   ·intro w'
    go_simp
    with_reducible rfl
   rotate_left
   ·simp only [Act.put, List.setIfInBounds_toArray, List.set_cons_zero, List.set_cons_succ, i64_w, i32_w]
    rfl
   refine pure_ (i := 3) (N := some 41) (v := ?_) (a' := ?_) #[true, true, true, true, false, false, false, false, false, false] rfl rfl (by kernel_rfl) (fun _ _ _ h => h) (Or.inl ⟨by rfl, ?_⟩) ?_ ?_
   rotate_left
   ·intro w'
    go_simp
    with_reducible rfl
   rotate_left
   ·simp only [Act.put, List.setIfInBounds_toArray, List.set_cons_zero, List.set_cons_succ, i64_w, i32_w]
    rfl
   refine pure_ (i := 4) (N := some 42) (v := ?_) (a' := ?_) #[true, true, true, true, true, false, false, false, false, false] rfl rfl (by kernel_rfl) (fun _ _ _ h => h) (Or.inl ⟨by rfl, ?_⟩) ?_ ?_
   rotate_left
   ·intro w'
    go_simp
    with_reducible rfl
   rotate_left
   ·simp only [Act.put, List.setIfInBounds_toArray, List.set_cons_zero, List.set_cons_succ, i64_w, i32_w]
    rfl
   refine pure_ (i := 5) (N := some 43) (v := ?_) (a' := ?_) #[true, true, true, true, true, true, false, false, false, false] rfl rfl (by kernel_rfl) (fun _ _ _ h => h) (Or.inl ⟨by rfl, ?_⟩) ?_ ?_
   rotate_left
   ·intro w'
    go_simp
    with_reducible rfl
   rotate_left
   ·simp only [Act.put, List.setIfInBounds_toArray, List.set_cons_zero, List.set_cons_succ, i64_w, i32_w]
    rfl
   refine pure_ (i := 6) (N := some 44) (v := ?_) (a' := ?_) #[true, true, true, true, true, true, true, false, false, false] rfl rfl (by kernel_rfl) (fun _ _ _ h => h) (Or.inl ⟨by rfl, ?_⟩) ?_ ?_
   rotate_left
   ·intro w'
    go_simp
    with_reducible rfl
   rotate_left
   ·simp only [Act.put, List.setIfInBounds_toArray, List.set_cons_zero, List.set_cons_succ, i64_w, i32_w]
    rfl
   rw [if_neg (show ¬ c = 1 by omega)]
   refine one_ (i := 7) (N := some 45) #[true, true, true, true, true, true, true, true, false, false] rfl rfl (by kernel_rfl) (by decide) (fun K hK => ?_)
   refine step_copy_splice rfl (.tmp 41) (.tmp 44) 25 25 rfl 3 Tryz.underlying25 hsz (some ⟨g, 1, none⟩) (some ⟨g, 0, none⟩) 7 _ 1 _ rfl rfl g 1 (rowR 1 ++ rest) 3 hgx.out (List.replicate 1 (.int .i64 (-1))) rfl (fun _ => ⟨rfl, ⟨g, 0, none⟩, rfl, fun j v hj => ?_⟩) (by rw [List.length_append]; show 1 + 1 ≤ 8 + rest.length; omega) (by intro v hv; rw [List.eq_of_mem_replicate hv]; rfl) _ w HB.out hgB ?_
   ·rw [List.getElem?_replicate] at hj
    have hlt : j < 1 := by by_cases h_ : j < 1; exact h_; rw [if_neg h_] at hj; cases hj
    rw [if_pos hlt] at hj
    rw [add_plain]
    (try rw [Nat.zero_add])
    refine (blk_cell hgx.out j).trans ?_
    rw [← hj]
    have hj4 : j = 0 ∨ j = 1 ∨ j = 2 ∨ j = 3 := by omega
    rcases hj4 with rfl | rfl | rfl | rfl <;> first | rfl | (exfalso; omega)
   ·intro w2 hc_ hb_
    have hgx2 : Aside0 (w2.heap[g]? = some (.cells (rowR 2 ++ rest).toArray 3 (0, 0))) := ⟨by have h_ := hc_.out; rw [h_]; simp [splice, rowR, List.replicate]⟩
    have HB2 : Aside0 (Below w.heap.size w w2) := ⟨hb_⟩
    clear hc_ hb_ HB hgx
    refine hK.out _ _ trivial (fun hHeld => ?_)
    clear hK K
    refine nA ?_ (some 45)
    refine pure_ (i := 8) (N := some 46) (v := ?_) (a' := ?_) #[true, true, true, true, true, true, true, true, true, false] rfl rfl (by kernel_rfl) (fun _ _ _ h => h) (Or.inl ⟨by rfl, ?_⟩) ?_ ?_
    rotate_left
    ·intro w'
     go_simp
     with_reducible rfl
    rotate_left
    ·simp only [Act.put, List.setIfInBounds_toArray, List.set_cons_zero, List.set_cons_succ, i64_w, i32_w]
     rfl
    refine pure_ (i := 9) (N := some 8) (v := ?_) (a' := ?_) #[true, true, true, true, true, true, true, true, true, true] rfl rfl (by kernel_rfl) (fun _ _ _ h => h) (Or.inl ⟨by rfl, ?_⟩) ?_ ?_
    rotate_left
    ·intro w'
     go_simp
     with_reducible rfl
    rotate_left
    ·simp only [Act.put, List.setIfInBounds_toArray, List.set_cons_zero, List.set_cons_succ, i64_w, i32_w]
     rfl
    refine done_ (by kernel_rfl) ?_
    try go_wp2
    go_roundw
    case rel => exact ⟨2, by decide, by have e_ : wrap64 2 = 2 := (by unfold wrap64; omega); simp [e_], hgx2, HB2⟩
    case measure =>
     have e_ : wrap64 2 = 2 := by unfold wrap64; omega
     simp [intOf, e_]
  ·go_wp2
   have hq_ : ((2 : Int) ≤ (c : Int)) = True := eq_true (by omega)
   replace hgx : Aside0 (wr.drew.heap[g]? = some (.cells (rowR 2 ++ rest).toArray 3 (0, 0))) := ⟨hgx.out⟩
   replace HB : Aside0 (Below w.heap.size w wr.drew) := ⟨below_drew HB.out⟩
   refine start_ (n := 10) (S := fun w' => True) (ds := []) #[false, false, false, false, false, false, false, false, false, false] (by kernel_rfl) rfl rfl trivial (fun hHeld => ?_)
   generalize wr.drew = wd at hgx HB hHeld ⊢
   refine pure_ (i := 0) (N := some 38) (v := ?_) (a' := ?_) #[true, false, false, false, false, false, false, false, false, false] rfl rfl (by kernel_rfl) (fun _ _ _ h => h) (Or.inl ⟨by rfl, ?_⟩) ?_ ?_
   rotate_left
   ·intro w'
    go_simp
    with_reducible rfl
   rotate_left
   ·simp only [Act.put, List.setIfInBounds_toArray, List.set_cons_zero, List.set_cons_succ, i64_w, i32_w]
    rfl
   refine pure_ (i := 1) (N := some 39) (v := ?_) (a' := ?_) #[true, true, false, false, false, false, false, false, false, false] rfl rfl (by kernel_rfl) (fun _ _ _ h => h) (Or.inl ⟨by rfl, ?_⟩) ?_ ?_
   rotate_left
   ·intro w'
    go_simp
    with_reducible rfl
   rotate_left
   ·simp only [Act.put, List.setIfInBounds_toArray, List.set_cons_zero, List.set_cons_succ, i64_w, i32_w]
    rfl
   refine pure_ (i := 2) (N := some 40) (v := ?_) (a' := ?_) #[true, true, true, false, false, false, false, false, false, false] rfl rfl (by kernel_rfl) (fun _ _ _ h => h) (Or.inl ⟨by rfl, ?_⟩) ?_ ?_
   rotate_left
   ·intro w'
    go_simp
    with_reducible rfl
   rotate_left
   ·simp only [Act.put, List.setIfInBounds_toArray, List.set_cons_zero, List.set_cons_succ, i64_w, i32_w]
    rfl
   refine pure_ (i := 3) (N := some 41) (v := ?_) (a' := ?_) #[true, true, true, true, false, false, false, false, false, false] rfl rfl (by kernel_rfl) (fun _ _ _ h => h) (Or.inl ⟨by rfl, ?_⟩) ?_ ?_
   rotate_left
   ·intro w'
    go_simp
    with_reducible rfl
   rotate_left
   ·simp only [Act.put, List.setIfInBounds_toArray, List.set_cons_zero, List.set_cons_succ, i64_w, i32_w]
    rfl
   refine pure_ (i := 4) (N := some 42) (v := ?_) (a' := ?_) #[true, true, true, true, true, false, false, false, false, false] rfl rfl (by kernel_rfl) (fun _ _ _ h => h) (Or.inl ⟨by rfl, ?_⟩) ?_ ?_
   rotate_left
   ·intro w'
    go_simp
    with_reducible rfl
   rotate_left
   ·simp only [Act.put, List.setIfInBounds_toArray, List.set_cons_zero, List.set_cons_succ, i64_w, i32_w]
    rfl
   refine pure_ (i := 5) (N := some 43) (v := ?_) (a' := ?_) #[true, true, true, true, true, true, false, false, false, false] rfl rfl (by kernel_rfl) (fun _ _ _ h => h) (Or.inl ⟨by rfl, ?_⟩) ?_ ?_
   rotate_left
   ·intro w'
    go_simp
    with_reducible rfl
   rotate_left
   ·simp only [Act.put, List.setIfInBounds_toArray, List.set_cons_zero, List.set_cons_succ, i64_w, i32_w]
    rfl
   refine pure_ (i := 6) (N := some 44) (v := ?_) (a' := ?_) #[true, true, true, true, true, true, true, false, false, false] rfl rfl (by kernel_rfl) (fun _ _ _ h => h) (Or.inl ⟨by rfl, ?_⟩) ?_ ?_
   rotate_left
   ·intro w'
    go_simp
    with_reducible rfl
   rotate_left
   ·simp only [Act.put, List.setIfInBounds_toArray, List.set_cons_zero, List.set_cons_succ, i64_w, i32_w]
    rfl
   rw [if_neg (show ¬ c = 2 by omega)]
   refine one_ (i := 7) (N := some 45) #[true, true, true, true, true, true, true, true, false, false] rfl rfl (by kernel_rfl) (by decide) (fun K hK => ?_)
   refine step_copy_splice rfl (.tmp 41) (.tmp 44) 25 25 rfl 3 Tryz.underlying25 hsz (some ⟨g, 2, none⟩) (some ⟨g, 0, none⟩) 6 _ 2 _ rfl rfl g 2 (rowR 2 ++ rest) 3 hgx.out (List.replicate 2 (.int .i64 (-1))) rfl (fun _ => ⟨rfl, ⟨g, 0, none⟩, rfl, fun j v hj => ?_⟩) (by rw [List.length_append]; show 2 + 2 ≤ 8 + rest.length; omega) (by intro v hv; rw [List.eq_of_mem_replicate hv]; rfl) _ w HB.out hgB ?_
   ·rw [List.getElem?_replicate] at hj
    have hlt : j < 2 := by by_cases h_ : j < 2; exact h_; rw [if_neg h_] at hj; cases hj
    rw [if_pos hlt] at hj
    rw [add_plain]
    (try rw [Nat.zero_add])
    refine (blk_cell hgx.out j).trans ?_
    rw [← hj]
    have hj4 : j = 0 ∨ j = 1 ∨ j = 2 ∨ j = 3 := by omega
    rcases hj4 with rfl | rfl | rfl | rfl <;> first | rfl | (exfalso; omega)
   ·intro w2 hc_ hb_
    have hgx2 : Aside0 (w2.heap[g]? = some (.cells (rowR 4 ++ rest).toArray 3 (0, 0))) := ⟨by have h_ := hc_.out; rw [h_]; simp [splice, rowR, List.replicate]⟩
    have HB2 : Aside0 (Below w.heap.size w w2) := ⟨hb_⟩
    clear hc_ hb_ HB hgx
    refine hK.out _ _ trivial (fun hHeld => ?_)
    clear hK K
    refine nA ?_ (some 45)
    refine pure_ (i := 8) (N := some 46) (v := ?_) (a' := ?_) #[true, true, true, true, true, true, true, true, true, false] rfl rfl (by kernel_rfl) (fun _ _ _ h => h) (Or.inl ⟨by rfl, ?_⟩) ?_ ?_
    rotate_left
    ·intro w'
     go_simp
     with_reducible rfl
    rotate_left
    ·simp only [Act.put, List.setIfInBounds_toArray, List.set_cons_zero, List.set_cons_succ, i64_w, i32_w]
     rfl
    refine pure_ (i := 9) (N := some 8) (v := ?_) (a' := ?_) #[true, true, true, true, true, true, true, true, true, true] rfl rfl (by kernel_rfl) (fun _ _ _ h => h) (Or.inl ⟨by rfl, ?_⟩) ?_ ?_
    rotate_left
    ·intro w'
     go_simp
     with_reducible rfl
    rotate_left
    ·simp only [Act.put, List.setIfInBounds_toArray, List.set_cons_zero, List.set_cons_succ, i64_w, i32_w]
     rfl
    refine done_ (by kernel_rfl) ?_
    try go_wp2
    go_roundw
    case rel => exact ⟨4, by decide, by have e_ : wrap64 4 = 4 := (by unfold wrap64; omega); simp [e_], hgx2, HB2⟩
    case measure =>
     have e_ : wrap64 4 = 4 := by unfold wrap64; omega
     simp [intOf, e_]
  ·go_wp2
   have hq_ : ((4 : Int) ≤ (c : Int)) = True := eq_true (by omega)
   replace hgx : Aside0 (wr.drew.heap[g]? = some (.cells (rowR 4 ++ rest).toArray 3 (0, 0))) := ⟨hgx.out⟩
   replace HB : Aside0 (Below w.heap.size w wr.drew) := ⟨below_drew HB.out⟩
   refine start_ (n := 10) (S := fun w' => True) (ds := []) #[false, false, false, false, false, false, false, false, false, false] (by kernel_rfl) rfl rfl trivial (fun hHeld => ?_)
   generalize wr.drew = wd at hgx HB hHeld ⊢
   refine pure_ (i := 0) (N := some 38) (v := ?_) (a' := ?_) #[true, false, false, false, false, false, false, false, false, false] rfl rfl (by kernel_rfl) (fun _ _ _ h => h) (Or.inl ⟨by rfl, ?_⟩) ?_ ?_
   rotate_left
   ·intro w'
    go_simp
    with_reducible rfl
   rotate_left
   ·simp only [Act.put, List.setIfInBounds_toArray, List.set_cons_zero, List.set_cons_succ, i64_w, i32_w]
    rfl
   refine pure_ (i := 1) (N := some 39) (v := ?_) (a' := ?_) #[true, true, false, false, false, false, false, false, false, false] rfl rfl (by kernel_rfl) (fun _ _ _ h => h) (Or.inl ⟨by rfl, ?_⟩) ?_ ?_
   rotate_left
   ·intro w'
    go_simp
    with_reducible rfl
   rotate_left
   ·simp only [Act.put, List.setIfInBounds_toArray, List.set_cons_zero, List.set_cons_succ, i64_w, i32_w]
    rfl
   refine pure_ (i := 2) (N := some 40) (v := ?_) (a' := ?_) #[true, true, true, false, false, false, false, false, false, false] rfl rfl (by kernel_rfl) (fun _ _ _ h => h) (Or.inl ⟨by rfl, ?_⟩) ?_ ?_
   rotate_left
   ·intro w'
    go_simp
    with_reducible rfl
   rotate_left
   ·simp only [Act.put, List.setIfInBounds_toArray, List.set_cons_zero, List.set_cons_succ, i64_w, i32_w]
    rfl
   refine pure_ (i := 3) (N := some 41) (v := ?_) (a' := ?_) #[true, true, true, true, false, false, false, false, false, false] rfl rfl (by kernel_rfl) (fun _ _ _ h => h) (Or.inl ⟨by rfl, ?_⟩) ?_ ?_
   rotate_left
   ·intro w'
    go_simp
    with_reducible rfl
   rotate_left
   ·simp only [Act.put, List.setIfInBounds_toArray, List.set_cons_zero, List.set_cons_succ, i64_w, i32_w]
    rfl
   refine pure_ (i := 4) (N := some 42) (v := ?_) (a' := ?_) #[true, true, true, true, true, false, false, false, false, false] rfl rfl (by kernel_rfl) (fun _ _ _ h => h) (Or.inl ⟨by rfl, ?_⟩) ?_ ?_
   rotate_left
   ·intro w'
    go_simp
    with_reducible rfl
   rotate_left
   ·simp only [Act.put, List.setIfInBounds_toArray, List.set_cons_zero, List.set_cons_succ, i64_w, i32_w]
    rfl
   refine pure_ (i := 5) (N := some 43) (v := ?_) (a' := ?_) #[true, true, true, true, true, true, false, false, false, false] rfl rfl (by kernel_rfl) (fun _ _ _ h => h) (Or.inl ⟨by rfl, ?_⟩) ?_ ?_
   rotate_left
   ·intro w'
    go_simp
    with_reducible rfl
   rotate_left
   ·simp only [Act.put, List.setIfInBounds_toArray, List.set_cons_zero, List.set_cons_succ, i64_w, i32_w]
    rfl
   refine pure_ (i := 6) (N := some 44) (v := ?_) (a' := ?_) #[true, true, true, true, true, true, true, false, false, false] rfl rfl (by kernel_rfl) (fun _ _ _ h => h) (Or.inl ⟨by rfl, ?_⟩) ?_ ?_
   rotate_left
   ·intro w'
    go_simp
    with_reducible rfl
   rotate_left
   ·simp only [Act.put, List.setIfInBounds_toArray, List.set_cons_zero, List.set_cons_succ, i64_w, i32_w]
    rfl
   rw [if_neg (show ¬ c = 4 by omega)]
   refine one_ (i := 7) (N := some 45) #[true, true, true, true, true, true, true, true, false, false] rfl rfl (by kernel_rfl) (by decide) (fun K hK => ?_)
   refine step_copy_splice rfl (.tmp 41) (.tmp 44) 25 25 rfl 3 Tryz.underlying25 hsz (some ⟨g, 4, none⟩) (some ⟨g, 0, none⟩) 4 _ 4 _ rfl rfl g 4 (rowR 4 ++ rest) 3 hgx.out (List.replicate 4 (.int .i64 (-1))) rfl (fun _ => ⟨rfl, ⟨g, 0, none⟩, rfl, fun j v hj => ?_⟩) (by rw [List.length_append]; show 4 + 4 ≤ 8 + rest.length; omega) (by intro v hv; rw [List.eq_of_mem_replicate hv]; rfl) _ w HB.out hgB ?_
   ·rw [List.getElem?_replicate] at hj
    have hlt : j < 4 := by by_cases h_ : j < 4; exact h_; rw [if_neg h_] at hj; cases hj
    rw [if_pos hlt] at hj
    rw [add_plain]
    (try rw [Nat.zero_add])
    refine (blk_cell hgx.out j).trans ?_
    rw [← hj]
    have hj4 : j = 0 ∨ j = 1 ∨ j = 2 ∨ j = 3 := by omega
    rcases hj4 with rfl | rfl | rfl | rfl <;> first | rfl | (exfalso; omega)
   ·intro w2 hc_ hb_
    have hgx2 : Aside0 (w2.heap[g]? = some (.cells (rowR 8 ++ rest).toArray 3 (0, 0))) := ⟨by have h_ := hc_.out; rw [h_]; simp [splice, rowR, List.replicate]⟩
    have HB2 : Aside0 (Below w.heap.size w w2) := ⟨hb_⟩
    clear hc_ hb_ HB hgx
    refine hK.out _ _ trivial (fun hHeld => ?_)
    clear hK K
    refine nA ?_ (some 45)
    refine pure_ (i := 8) (N := some 46) (v := ?_) (a' := ?_) #[true, true, true, true, true, true, true, true, true, false] rfl rfl (by kernel_rfl) (fun _ _ _ h => h) (Or.inl ⟨by rfl, ?_⟩) ?_ ?_
    rotate_left
    ·intro w'
     go_simp
     with_reducible rfl
    rotate_left
    ·simp only [Act.put, List.setIfInBounds_toArray, List.set_cons_zero, List.set_cons_succ, i64_w, i32_w]
     rfl
    refine pure_ (i := 9) (N := some 8) (v := ?_) (a' := ?_) #[true, true, true, true, true, true, true, true, true, true] rfl rfl (by kernel_rfl) (fun _ _ _ h => h) (Or.inl ⟨by rfl, ?_⟩) ?_ ?_
    rotate_left
    ·intro w'
     go_simp
     with_reducible rfl
    rotate_left
    ·simp only [Act.put, List.setIfInBounds_toArray, List.set_cons_zero, List.set_cons_succ, i64_w, i32_w]
     rfl
    refine done_ (by kernel_rfl) ?_
    try go_wp2
    go_roundw
    case rel => exact ⟨8, by decide, by have e_ : wrap64 8 = 8 := (by unfold wrap64; omega); simp [e_], hgx2, HB2⟩
    case measure =>
     have e_ : wrap64 8 = 8 := by unfold wrap64; omega
     simp [intOf, e_]
  ·go_wp2
   go_ret
   refine ⟨_, rfl, ?_, HB.out⟩
   refine Kd.R_of_own ⟨rfl, .inr ⟨g, c, _, rfl, hgB, hgx.out, by show 8 ≤ c; omega, hc2, ?_, ?_⟩⟩ (fun _ _ => trivial)
   ·simp [rowR, List.replicate]; omega
   ·simp [rowR, List.replicate, encs]
theorem slices_Repeat_int_int.calls (A0 : Option Addr) (c0 : Nat) (l0 : List Int) (a1 : Int) (r : List Int) (w : World) (hr0 : Kd.C (Kd.int .i64) w A0 l0.length l0) (hc0 : l0.length ≤ c0) (h : slices_Repeat_int_int.f l0 a1 = some r) :
 Calls Tryz.prog 39 #[.slice A0 l0.length c0, .int .i64 a1] w fun e w' => ∃ v0_ : Value, e = .returned (v0_) ∧ Kd.R (Kd.int .i64) 3 w' w.heap.size (fun _ => True) v0_ r ∧ Below w.heap.size w w' := by
 unfold slices_Repeat_int_int.f at h
 by_cases c : l0 = [-1] ∧ a1 = 8
 ·rw [if_pos c] at h
  obtain ⟨rfl, rfl⟩ := c
  obtain rfl := Option.some.inj h
  obtain ⟨ad, rfl, hx⟩ := Kd.at_int hr0 0 (by omega) (by decide)
  have e : ad.add (0 : Int).toNat = ad := by cases ad; simp [Addr.add]
  rw [e] at hx
  exact slices_Repeat_int_int.one ad c0 w hx
 ·rw [if_neg c] at h; cases h

/-! ### slices_Clone_int_int: function 40 -/
def slices_Clone_int_int.f (l0 : List Int) : Option (List Int) := if l0.length * 8 ≤ 140737488351232 then some l0 else none
theorem infoC3 : (Tryz.prog.info? 3).map (fun i => (i.zero, i.size, i.bytes)) = some (some (.int .i64 0), 1, 8) := by kernel_rfl
set_option maxHeartbeats 4000000 in
set_option maxRecDepth 100000 in
theorem slices_Clone_int_int.calls (A0 : Option Addr) (c0 : Nat) (l0 : List Int) (r : List Int) (w : World) (hr0 : Kd.C (Kd.int .i64) w A0 l0.length l0) (hc0 : l0.length ≤ c0) (h : slices_Clone_int_int.f l0 = some r) :
 Calls Tryz.prog 40 #[.slice A0 l0.length c0] w fun e w' => ∃ v0_ : Value, e = .returned (v0_) ∧ Kd.R (Kd.int .i64) 3 w' w.heap.size (fun _ => True) v0_ r ∧ Below w.heap.size w w' := by
 have q22 : ∀ (w : World) (a : Option Addr) (n c n' c' : Nat), (binOp .eql 25 (.slice a n c) (.slice none n' c')).run Tryz.prog w = .ok (.bool a.isNone) w := fun w a n c n' c' => Go.Lib.run_eql_slice_nil w _ _ a n c n' c' Tryz.underlying25
 unfold slices_Clone_int_int.f at h
 split at h
 ·rename_i hb
  obtain rfl := Option.some.inj h
  cases A0 with
  | none =>
   have h0 : l0 = [] := by
    rcases Nat.eq_zero_or_pos l0.length with h0 | h0
    ·exact List.eq_nil_of_length_eq_zero h0
    ·obtain ⟨ad, he, _⟩ := hr0.2.2 h0
     cases he
   subst h0
   go_enter Tryz.func40, Tryz.ntmps40
   go_wp2
   go_ret
   exact ⟨_, rfl, Kd.R_nil _ _ _ _ _, Below.refl _ _⟩
  | some ad =>
   have HR := Aside0.mk hr0
   clear hr0
   go_enter Tryz.func40, Tryz.ntmps40
   go_wp2_with (first | ((with_reducible refine gate_dst (N := 5) rfl ?_); refine Kd.R_lit (Kd.int .i64) _ 3 ?hg (N := 5) ?hd (xs := ([] : List Int)) (inner := []) (ok := fun _ => True) (okp := fun _ => True) ?hr ?hp (fun _ hk => hk) trivial (Below.refl _ _) (Nat.le_refl _) (by simp) ?_; (case hd => rfl); (case hg => rfl); (case hr => first | (go_simp; done) | (go_simp; rfl)); (case hp => exact (Reps.none _ _)); intro v1 w1 ho hb1 _ _; have HO := Aside0.mk ho; have HB := Aside0.mk hb1; clear ho hb1) | ((with_reducible refine gate_builtin (b := .append) (xs := #[.tmp 5, .tmp 6]) rfl ?_); at_builtin; refine Kd.R_append_rows (Kd.int .i64) (w0 := w) w.heap.size rfl (.tmp 5) (.tmp 6) 25 3 (.int .i64 0) 8 rfl Tryz.underlying25 infoC3 rfl (by decide) (by omega) _ ([] : List Int) l0 _ _ _ (fun _ => True) (fun _ => False) rfl rfl ?aO ?aR (fun _ _ h => h) (fun _ h => h.elim) ?aF ?aB ?aS ?aL ?_; (case aO => exact HO.out); (case aR => exact Kd.C_below HR.out HB.out); (case aF => exact fun _ _ => trivial); (case aB => exact HB.out); (case aS => exact below_size HB.out); (case aL => simp only [List.length_nil]; omega); intro v2 w2 ho2 hb2 _ _; have HO2 := Aside0.mk ho2; have HB2 := Aside0.mk hb2; clear ho2 hb2))
   go_ret
   refine ⟨_, rfl, ?_, HB2.out⟩
   have := HO2.out
   rwa [List.nil_append] at this
 ·cases h


end Go.Proofs.YtmfidodcpbochaaGreat.QFnSteps
