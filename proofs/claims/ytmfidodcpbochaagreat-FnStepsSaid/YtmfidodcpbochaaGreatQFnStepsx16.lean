/- Contracts of Go functions that FnSteps reaches: the call computes what the plain function says. No condition. -/
import Derived.Test.YtmfidodcpbochaaGreatQFnStepsx0
import Derived.Test.YtmfidodcpbochaaGreatQFnStepsx6
import Derived.Test.YtmfidodcpbochaaGreatQFnStepsx8
import Derived.Test.YtmfidodcpbochaaGreatQFnStepsx12
import Derived.Test.YtmfidodcpbochaaGreatQFnStepsx15
namespace Go.Proofs.YtmfidodcpbochaaGreat.QFnSteps
open Go.RowKit Go.Proofs.YtmfidodcpbochaaGreatW.PrintWords Go.Proofs.YtmfidodcpbochaaGreatW.PrintLast Go.Proofs.YtmfidodcpbochaaGreatW.PrintMore
attribute [local go_sem] max2_int min2_int max_two min_two max_three min_three max_four min_four   -- for this text's walks alone
set_option linter.unusedVariables false
set_option linter.unusedSimpArgs false

/-! ### impl_LongestCave: function 19 -/
def impl_LongestCave.l0 : Nat → List (S32) → Int → Int → List (List Int) → Int → Int → Option (Int × Int × Bool)
 | 0, _, _, _, _, _, _ => none
 | k + 1, x0, x5, x6, x14, x15, x16 => if x16 < x15 then (if 0 ≤ x16 then (if x16 < (x14.length : Int) then (if 0 < ((rd_L4 x14 x16).length : Int) then ((impl_caveLength.f k x0 (rd (rd_L4 x14 x16) 0)).bind fun t676 => (if t676 > x6 then (impl_LongestCave.l0 k x0 (rd (rd_L4 x14 x16) 0) t676 x14 x15 (wrap64 (x16 + 1))) else (impl_LongestCave.l0 k x0 x5 x6 x14 x15 (wrap64 (x16 + 1))))) else (none)) else (none)) else (none)) else (some (x5, x6, decide (x6 > 0)))
def impl_LongestCave.f (k : Nat) (l0 : List (S32)) : Option (Int × Int × Bool) := (impl_areLegs.f k l0).bind fun t670 => (if t670 = true then ((impl_caves.f k l0).bind fun t671 => (impl_LongestCave.l0 k l0 0 0 t671 (t671.length : Int) 0)) else (some (0, 0, false)))
theorem impl_LongestCave.mono_l : ∀ k, (∀ y0 y1 y2 y3 y4 y5, LeO (impl_LongestCave.l0 k y0 y1 y2 y3 y4 y5) (impl_LongestCave.l0 (k + 1) y0 y1 y2 y3 y4 y5))
 | 0 => fun _ _ _ _ _ _ r h => by simp [impl_LongestCave.l0] at h
 | k + 1 => by
  have ih0 := impl_LongestCave.mono_l k
  ·intro y0 y1 y2 y3 y4 y5
   unfold impl_LongestCave.l0
   repeat' with_reducible first | apply ih0 | apply impl_areLegs.mono | apply impl_caveLength.mono | apply impl_caves.mono | exact LeO.refl _ | exact LeO.none _ | refine LeO.ite ?_ ?_ | refine LeO.bind ?_ (fun _ => ?_)
theorem impl_LongestCave.mono : ∀ a0 k, LeO (impl_LongestCave.f k a0) (impl_LongestCave.f (k + 1) a0) := by
 intro a0 k
 have ih0 := impl_LongestCave.mono_l k
 unfold impl_LongestCave.f
 repeat' with_reducible first | apply ih0 | apply impl_areLegs.mono | apply impl_caveLength.mono | apply impl_caves.mono | exact LeO.refl _ | exact LeO.none _ | refine LeO.ite ?_ ?_ | refine LeO.bind ?_ (fun _ => ?_)
set_option maxHeartbeats 8000000 in
set_option maxRecDepth 100000 in
theorem impl_LongestCave.calls (k : Nat) (A0 : Option Addr) (c0 : Nat) (l0 : List (S32)) (r1 r2 : Int) (r3 : Bool) (w : World) (hr0 : Kd.C k32 w A0 l0.length l0) (hc0 : l0.length ≤ c0) (h : impl_LongestCave.f k l0 = some (r1, r2, r3)) :
 Calls Tryz.prog 19 #[.slice A0 l0.length c0] w fun e w' => e = .returned (.tuple #[.int .i64 r1, .int .i64 r2, .bool r3]) ∧ Below w.heap.size w w' := by
 have HR0 := Aside0.mk hr0
 have HC0 := Aside0.mk hc0
 clear hr0 hc0
 have HB := Aside0.mk (Below.refl w.heap.size w)
 have H := h
 clear h
 unfold impl_LongestCave.f at H
 replace H := bA H
 obtain ⟨t670, A2, H⟩ := H
 rcases Bool.eq_false_or_eq_true t670 with rfl | rfl
 ·replace H := iT rfl H
  replace H := bA H
  obtain ⟨t671, A4, H⟩ := H
  have H' := Aside0.mk H
  clear H
  go_enter Tryz.func19, Tryz.ntmps19
  go_wp2_with (first | ((with_reducible refine gC 27 ?_); refine lA (some 11) Tryz.func27 (impl_areLegs.calls k _ _ l0 true _ ?side1 ?side2 A2.out) ?_; (case side1 => exact zC HR0); (case side2 => exact HC0.out); intro w5 hb; replace HB := uB HB hb; (try clear hb)) | ((with_reducible refine gC 28 ?_); refine zG (some 14) Tryz.func28 (impl_caves.calls k _ _ l0 t671 _ (zCB HR0 HB) (HC0.out) A4.out) ?_; rintro e w6 ⟨v672, rfl, ho0, hb⟩; refine ⟨_, rfl, ?_⟩; have HO673 := Aside0.mk (Kd.S_lower ho0 (below_size (bW HB))); replace HB := uB HB hb; (try clear hb); (try clear ho0); obtain ⟨Ao7, co7, eo7⟩ := Kd.S_slice HO673.out; subst eo7))
  (try simp only [Act.put, List.setIfInBounds_toArray, List.set_cons_zero, List.set_cons_succ])
  go_loopg [5, 6, 16] k (fun kq v5 v6 v16 w' => ∃ (x5_1 x6_1 x16_1 : Int), v5 = .int .i64 x5_1 ∧ v6 = .int .i64 x6_1 ∧ v16 = .int .i64 x16_1 ∧ Aside0 (impl_LongestCave.l0 kq l0 x5_1 x6_1 t671 (t671.length : Int) x16_1 = some (r1, r2, r3)) ∧ Aside0 (kq ≤ k) ∧ Aside0 (Kd.S (Kd.slice 3 (Kd.int .i64)) 25 w' w.heap.size (fun _ => True) (.slice Ao7 t671.length co7) t671) ∧ Aside0 (Below w.heap.size w w'))
  case atStart => exact ⟨(0), (0), (0), rB, rB, rB, H', ⟨Nat.le_refl _⟩, ⟨upS HO673.out⟩, (aB HB)⟩
  case round =>
   clear H'
   obtain ⟨x5_1, x6_1, x16_1, rfl, rfl, rfl, HA, HK1, HO_14, HB⟩ := hrel
   cases gk with
   | zero => exact absurd HA.out (by simp [impl_LongestCave.l0])
   | succ k1 =>
    have H := HA.out
    clear HA
    simp only [impl_LongestCave.l0] at H
    replace H := ifD H
    rcases H with ⟨H, -, c8b0⟩ | ⟨H, -, c8b0⟩
    ·replace H := zN H
     obtain ⟨c9b0, H⟩ := H
     replace H := zN H
     obtain ⟨c10b0, H⟩ := H
     replace H := zM H
     obtain ⟨c11, H⟩ := H
     have c11b0 : decide (0 < ((rd_L4 t671 x16_1).length : Int)) = true := decide_eq_true c11
     have c11b1 : decide (0 < (rd_L4 t671 x16_1).length) = true := decide_eq_true (by omega)
     clear c11
     replace H := bA H
     obtain ⟨t676, A12, H⟩ := H
     replace H := ifD H
     rcases H with ⟨H, -, c13b0⟩ | ⟨H, -, c13b0⟩
     ·have H' := Aside0.mk H
      clear H
      have p674 : 0 ≤ (x16_1 : Int) := of_decide_eq_true asmB
      have q674 : x16_1 < (t671.length : Int) := of_decide_eq_true asmB
      obtain ⟨ad674, A674_0, c674_0, e674, hx674_0, hl674_0, hi674_0⟩ := at_L4 (Kd.S_reads' HO_14.out).2.2 x16_1 p674 q674
      cases e674
      obtain ⟨ce674, hce674, hMe674, hcc674⟩ := Kd.S_get HO_14.out [] x16_1 p674 (by first | exact q674 | exact of_decide_eq_true asmB | (have e_ := (Kd.S_reads' HO_14.out).1; omega))
      obtain ⟨ve674_0, rfl, ge674_0⟩ := hMe674
      have hv674_0 := hcc674 0 _ rfl
      rw [Nat.add_zero, show ((Kd.slice 3 (Kd.int .i64))).sz = 1 from rfl, Nat.mul_one] at hv674_0
      replace hv674_0 := Option.some.inj (hv674_0.symm.trans hx674_0)
      rw [hv674_0] at ge674_0
      have HL674_0 := Aside0.mk (show Kd.R (Kd.int .i64) 3 _ _ _ _ (rd_L4 t671 x16_1) from ge674_0)
      clear hv674_0 ge674_0
      clear hcc674 hce674
      have HR674_0 := Aside0.mk hi674_0
      have HC674_0 := Aside0.mk hl674_0
      clear hi674_0 hl674_0
      replace p674 := eq_true p674
      replace q674 := eq_true q674
      have p675 : 0 ≤ (0 : Int) := (by omega)
      have q675 : 0 < ((rd_L4 t671 x16_1).length : Int) := of_decide_eq_true asmB
      obtain ⟨ad675, e675, hx675_0⟩ := Kd.at_int (by repeat (first | (with_reducible exact HR674_0.out) | (with_reducible refine Kd.C_alloc ?_ _) | (with_reducible refine Kd.C_drewN ?_ _) | (with_reducible refine Kd.C_drew ?_) | exact HR674_0.out)) 0 p675 q675
      cases e675
      have qi675 : (0 < (rd_L4 t671 x16_1).length) = True := eq_true (by omega)
      (try rw [show ((0 : Int)).toNat = 0 from rfl] at hx675_0)
      (try rw [Addr.add_zero'] at hx675_0)
      replace p675 := eq_true p675
      replace q675 := eq_true q675
      go_wp2_with (first | ((with_reducible refine gC 33 ?_); refine lA (some 24) Tryz.func33 (impl_caveLength.calls k1 _ _ l0 (rd (rd_L4 t671 x16_1) 0) t676 _ ?side1 ?side2 A12.out) ?_; (case side1 => exact zCB HR0 HB); (case side2 => exact HC0.out); intro w14 hb; replace HO_14 := Aside0.mk (Kd.S_below (upS HO_14.out) hb); replace HL674_0 := Aside0.mk (Kd.R_below (upR HL674_0.out) hb); replace HR674_0 := Aside0.mk (Kd.C_below (by repeat (first | (with_reducible exact HR674_0.out) | (with_reducible refine Kd.C_alloc ?_ _) | (with_reducible refine Kd.C_drewN ?_ _) | (with_reducible refine Kd.C_drew ?_) | exact HR674_0.out)) hb); replace HB := uB HB hb; (try clear hb); have p677 : 0 ≤ (0 : Int) := (by omega); have q677 : 0 < ((rd_L4 t671 x16_1).length : Int) := of_decide_eq_true asmB; obtain ⟨ad677, e677, hx677_0⟩ := Kd.at_int (by repeat (first | (with_reducible exact HR674_0.out) | (with_reducible refine Kd.C_alloc ?_ _) | (with_reducible refine Kd.C_drewN ?_ _) | (with_reducible refine Kd.C_drew ?_) | exact HR674_0.out)) 0 p677 q677; obtain rfl : ad675 = ad677 := (by injection e677); have qi677 : (0 < (rd_L4 t671 x16_1).length) = True := eq_true (by omega); (try rw [show ((0 : Int)).toNat = 0 from rfl] at hx677_0); (try rw [Addr.add_zero'] at hx677_0); replace p677 := eq_true p677; replace q677 := eq_true q677))
      go_roundg k1
      case measure => have := HK1.out; omega
      case rel => exact ⟨(rd (rd_L4 t671 x16_1) 0), (t676), (wrap64 (x16_1 + 1)), rB, rB, rB, H', ⟨by have := HK1.out; omega⟩, ⟨upS HO_14.out⟩, (aB HB)⟩
     ·have H' := Aside0.mk H
      clear H
      have p674 : 0 ≤ (x16_1 : Int) := of_decide_eq_true asmB
      have q674 : x16_1 < (t671.length : Int) := of_decide_eq_true asmB
      obtain ⟨ad674, A674_0, c674_0, e674, hx674_0, hl674_0, hi674_0⟩ := at_L4 (Kd.S_reads' HO_14.out).2.2 x16_1 p674 q674
      cases e674
      obtain ⟨ce674, hce674, hMe674, hcc674⟩ := Kd.S_get HO_14.out [] x16_1 p674 (by first | exact q674 | exact of_decide_eq_true asmB | (have e_ := (Kd.S_reads' HO_14.out).1; omega))
      obtain ⟨ve674_0, rfl, ge674_0⟩ := hMe674
      have hv674_0 := hcc674 0 _ rfl
      rw [Nat.add_zero, show ((Kd.slice 3 (Kd.int .i64))).sz = 1 from rfl, Nat.mul_one] at hv674_0
      replace hv674_0 := Option.some.inj (hv674_0.symm.trans hx674_0)
      rw [hv674_0] at ge674_0
      have HL674_0 := Aside0.mk (show Kd.R (Kd.int .i64) 3 _ _ _ _ (rd_L4 t671 x16_1) from ge674_0)
      clear hv674_0 ge674_0
      clear hcc674 hce674
      have HR674_0 := Aside0.mk hi674_0
      have HC674_0 := Aside0.mk hl674_0
      clear hi674_0 hl674_0
      replace p674 := eq_true p674
      replace q674 := eq_true q674
      have p675 : 0 ≤ (0 : Int) := (by omega)
      have q675 : 0 < ((rd_L4 t671 x16_1).length : Int) := of_decide_eq_true asmB
      obtain ⟨ad675, e675, hx675_0⟩ := Kd.at_int (by repeat (first | (with_reducible exact HR674_0.out) | (with_reducible refine Kd.C_alloc ?_ _) | (with_reducible refine Kd.C_drewN ?_ _) | (with_reducible refine Kd.C_drew ?_) | exact HR674_0.out)) 0 p675 q675
      cases e675
      have qi675 : (0 < (rd_L4 t671 x16_1).length) = True := eq_true (by omega)
      (try rw [show ((0 : Int)).toNat = 0 from rfl] at hx675_0)
      (try rw [Addr.add_zero'] at hx675_0)
      replace p675 := eq_true p675
      replace q675 := eq_true q675
      go_wp2_with (first | ((with_reducible refine gC 33 ?_); refine lA (some 24) Tryz.func33 (impl_caveLength.calls k1 _ _ l0 (rd (rd_L4 t671 x16_1) 0) t676 _ ?side1 ?side2 A12.out) ?_; (case side1 => exact zCB HR0 HB); (case side2 => exact HC0.out); intro w15 hb; replace HO_14 := Aside0.mk (Kd.S_below (upS HO_14.out) hb); replace HL674_0 := Aside0.mk (Kd.R_below (upR HL674_0.out) hb); replace HR674_0 := Aside0.mk (Kd.C_below (by repeat (first | (with_reducible exact HR674_0.out) | (with_reducible refine Kd.C_alloc ?_ _) | (with_reducible refine Kd.C_drewN ?_ _) | (with_reducible refine Kd.C_drew ?_) | exact HR674_0.out)) hb); replace HB := uB HB hb; (try clear hb)))
      go_roundg k1
      case measure => have := HK1.out; omega
      case rel => exact ⟨(x5_1), (x6_1), (wrap64 (x16_1 + 1)), rB, rB, rB, H', ⟨by have := HK1.out; omega⟩, ⟨upS HO_14.out⟩, (aB HB)⟩
    ·simp only [Option.some.injEq, Prod.mk.injEq] at H
     obtain ⟨rfl, rfl, rfl⟩ := H
     go_wp2
     go_ret3
     exact ⟨eB, (bW HB)⟩
 ·replace H := iF (by decide) H
  simp only [Option.some.injEq, Prod.mk.injEq] at H
  obtain ⟨rfl, rfl, rfl⟩ := H
  go_enter Tryz.func19, Tryz.ntmps19
  go_wp2_with (first | ((with_reducible refine gC 27 ?_); refine lA (some 11) Tryz.func27 (impl_areLegs.calls k _ _ l0 false _ ?side1 ?side2 A2.out) ?_; (case side1 => exact zC HR0); (case side2 => exact HC0.out); intro w16 hb; replace HB := uB HB hb; (try clear hb)))
  go_ret3
  exact ⟨eB, (bW HB)⟩

/-! ### spec_l17Used: function 57 -/
def spec_l17Used.l0 : Nat → List (S32) → Int → Int → Option (Bool)
 | 0, _, _, _ => none
 | k + 1, x0, x1, x5 => if x5 < (x0.length : Int) then (if 0 ≤ x5 then (if ((rd_T32 x0 x5).f0) = x1 then (some true) else (if ((rd_T32 x0 x5).f1) = x1 then (some true) else (spec_l17Used.l0 k x0 x1 (wrap64 (x5 + 1))))) else (none)) else (some false)
def spec_l17Used.f (k : Nat) (l0 : List (S32)) (a1 : Int) : Option (Bool) := spec_l17Used.l0 k l0 a1 0
theorem spec_l17Used.mono_l : ∀ k, (∀ y0 y1 y2, LeO (spec_l17Used.l0 k y0 y1 y2) (spec_l17Used.l0 (k + 1) y0 y1 y2))
 | 0 => fun _ _ _ r h => by simp [spec_l17Used.l0] at h
 | k + 1 => by
  have ih0 := spec_l17Used.mono_l k
  ·intro y0 y1 y2
   unfold spec_l17Used.l0
   repeat' with_reducible first | apply ih0 | exact LeO.refl _ | exact LeO.none _ | refine LeO.ite ?_ ?_ | refine LeO.bind ?_ (fun _ => ?_)
theorem spec_l17Used.mono : ∀ a0 a1 k, LeO (spec_l17Used.f k a0 a1) (spec_l17Used.f (k + 1) a0 a1) := by
 intro a0 a1 k
 have ih0 := spec_l17Used.mono_l k
 unfold spec_l17Used.f
 repeat' with_reducible first | apply ih0 | exact LeO.refl _ | exact LeO.none _ | refine LeO.ite ?_ ?_ | refine LeO.bind ?_ (fun _ => ?_)
set_option maxHeartbeats 8000000 in
set_option maxRecDepth 100000 in
theorem spec_l17Used.calls (k : Nat) (A0 : Option Addr) (c0 : Nat) (l0 : List (S32)) (a1 : Int) (r : Bool) (w : World) (hr0 : Kd.C k32 w A0 l0.length l0) (hc0 : l0.length ≤ c0) (h : spec_l17Used.f k l0 a1 = some r) :
 Calls Tryz.prog 57 #[.slice A0 l0.length c0, .int .i64 a1] w fun e w' => e = .returned (.bool r) ∧ Drawn0 w w' := by
 have HR0 := Aside0.mk hr0
 have HC0 := Aside0.mk hc0
 clear hr0 hc0
 have H : (spec_l17Used.l0 k l0 a1 0) = some r := h
 clear h
 have H' := Aside0.mk H
 clear H
 go_enter Tryz.func57, Tryz.ntmps57
 go_wp2
 go_loopg [5] k (fun kq v5 w' => ∃ (x5_1 : Int), v5 = .int .i64 x5_1 ∧ Aside0 (spec_l17Used.l0 kq l0 a1 x5_1 = some r) ∧ Aside0 (kq ≤ k) ∧ Drawn0 w w')
 case atStart => exact ⟨(0), rB, H', ⟨Nat.le_refl _⟩, by repeat (first | exact Drawn0.refl _ | apply Drawn0.step)⟩
 case round =>
  clear H'
  obtain ⟨x5_1, rfl, HA, HK1, ⟨m1, rfl⟩⟩ := hrel
  cases gk with
  | zero => exact absurd HA.out (by simp [spec_l17Used.l0])
  | succ k1 =>
   have H := HA.out
   clear HA
   simp only [spec_l17Used.l0] at H
   replace H := ifD H
   rcases H with ⟨H, -, c3b0⟩ | ⟨H, -, c3b0⟩
   ·replace H := zN H
    obtain ⟨c4b0, H⟩ := H
    replace H := ifI H
    rcases H with ⟨H, -, c5b0, c5b1⟩ | ⟨H, c5, c5b0, c5b1⟩
    ·obtain rfl := Option.some.inj H
     have p678 : 0 ≤ (x5_1 : Int) := of_decide_eq_true asmB
     have q678 : x5_1 < (l0.length : Int) := of_decide_eq_true asmB
     obtain ⟨ad678, e678, hx678_0, hx678_1, hx678_2, hx678_3, hx678_4⟩ := at_T32 HR0.out x5_1 p678 q678
     cases e678
     replace p678 := eq_true p678
     replace q678 := eq_true q678
     go_wp2
     go_ret
     exact ⟨rB, by repeat (first | exact Drawn0.refl _ | apply Drawn0.step)⟩
    ·replace H := ifI H
     rcases H with ⟨H, -, c6b0, c6b1⟩ | ⟨H, c6, c6b0, c6b1⟩
     ·obtain rfl := Option.some.inj H
      have p678 : 0 ≤ (x5_1 : Int) := of_decide_eq_true asmB
      have q678 : x5_1 < (l0.length : Int) := of_decide_eq_true asmB
      obtain ⟨ad678, e678, hx678_0, hx678_1, hx678_2, hx678_3, hx678_4⟩ := at_T32 HR0.out x5_1 p678 q678
      cases e678
      replace p678 := eq_true p678
      replace q678 := eq_true q678
      have p679 : 0 ≤ (x5_1 : Int) := of_decide_eq_true asmB
      have q679 : x5_1 < (l0.length : Int) := of_decide_eq_true asmB
      obtain ⟨ad679, e679, hx679_0, hx679_1, hx679_2, hx679_3, hx679_4⟩ := at_T32 HR0.out x5_1 p679 q679
      obtain rfl : ad678 = ad679 := (by injection e679)
      replace p679 := eq_true p679
      replace q679 := eq_true q679
      go_wp2
      go_ret
      exact ⟨rB, by repeat (first | exact Drawn0.refl _ | apply Drawn0.step)⟩
     ·have H' := Aside0.mk H
      clear H
      have p678 : 0 ≤ (x5_1 : Int) := of_decide_eq_true asmB
      have q678 : x5_1 < (l0.length : Int) := of_decide_eq_true asmB
      obtain ⟨ad678, e678, hx678_0, hx678_1, hx678_2, hx678_3, hx678_4⟩ := at_T32 HR0.out x5_1 p678 q678
      cases e678
      replace p678 := eq_true p678
      replace q678 := eq_true q678
      have p679 : 0 ≤ (x5_1 : Int) := of_decide_eq_true asmB
      have q679 : x5_1 < (l0.length : Int) := of_decide_eq_true asmB
      obtain ⟨ad679, e679, hx679_0, hx679_1, hx679_2, hx679_3, hx679_4⟩ := at_T32 HR0.out x5_1 p679 q679
      obtain rfl : ad678 = ad679 := (by injection e679)
      replace p679 := eq_true p679
      replace q679 := eq_true q679
      go_wp2
      go_roundg k1
      case measure => have := HK1.out; omega
      case rel => exact ⟨(wrap64 (x5_1 + 1)), rB, H', ⟨by have := HK1.out; omega⟩, by repeat (first | exact Drawn0.refl _ | apply Drawn0.step)⟩
   ·obtain rfl := Option.some.inj H
    go_wp2
    go_ret
    exact ⟨rB, by repeat (first | exact Drawn0.refl _ | apply Drawn0.step)⟩

/-! ### spec_l17Caves: function 34 -/
def spec_l17Caves.l0 : Nat → List (S32) → List (List Int) → Int → Option ((List (List Int)))
 | 0, _, _, _ => none
 | k + 1, x0, x3, x4 => if x4 < 8 then ((spec_l17Cave.f k x0 x4 (-1)).bind fun t683 => ((spec_l17Used.f k x0 x4).bind fun t686 => (if t686 = true then (if 0 < (t683.length : Int) then (if (rd t683 0) = x4 then (if x3.length < 5864062014805 then (spec_l17Caves.l0 k x0 (x3 ++ [t683]) (wrap64 (x4 + 1))) else (none)) else (spec_l17Caves.l0 k x0 x3 (wrap64 (x4 + 1)))) else (none)) else (spec_l17Caves.l0 k x0 x3 (wrap64 (x4 + 1)))))) else (some x3)
def spec_l17Caves.f (k : Nat) (l0 : List (S32)) : Option ((List (List Int))) := spec_l17Caves.l0 k l0 (([] : List (List Int))) 0
theorem spec_l17Caves.mono_l : ∀ k, (∀ y0 y1 y2, LeO (spec_l17Caves.l0 k y0 y1 y2) (spec_l17Caves.l0 (k + 1) y0 y1 y2))
 | 0 => fun _ _ _ r h => by simp [spec_l17Caves.l0] at h
 | k + 1 => by
  have ih0 := spec_l17Caves.mono_l k
  ·intro y0 y1 y2
   unfold spec_l17Caves.l0
   repeat' with_reducible first | apply ih0 | apply spec_l17Cave.mono | apply spec_l17Used.mono | exact LeO.refl _ | exact LeO.none _ | refine LeO.ite ?_ ?_ | refine LeO.bind ?_ (fun _ => ?_)
theorem spec_l17Caves.mono : ∀ a0 k, LeO (spec_l17Caves.f k a0) (spec_l17Caves.f (k + 1) a0) := by
 intro a0 k
 have ih0 := spec_l17Caves.mono_l k
 unfold spec_l17Caves.f
 repeat' with_reducible first | apply ih0 | apply spec_l17Cave.mono | apply spec_l17Used.mono | exact LeO.refl _ | exact LeO.none _ | refine LeO.ite ?_ ?_ | refine LeO.bind ?_ (fun _ => ?_)
set_option maxHeartbeats 8000000 in
set_option maxRecDepth 100000 in
theorem spec_l17Caves.calls (k : Nat) (A0 : Option Addr) (c0 : Nat) (l0 : List (S32)) (r : List (List Int)) (w : World) (hr0 : Kd.C k32 w A0 l0.length l0) (hc0 : l0.length ≤ c0) (h : spec_l17Caves.f k l0 = some r) :
 Calls Tryz.prog 34 #[.slice A0 l0.length c0] w fun e w' => ∃ v0_ : Value, e = .returned (v0_) ∧ Kd.S (Kd.slice 3 (Kd.int .i64)) 25 w' w.heap.size (fun _ => True) v0_ r ∧ Below w.heap.size w w' := by
 have HR0 := Aside0.mk hr0
 have HC0 := Aside0.mk hc0
 clear hr0 hc0
 have HB := Aside0.mk (Below.refl w.heap.size w)
 have H : (spec_l17Caves.l0 k l0 (([] : List (List Int))) 0) = some r := h
 clear h
 obtain ⟨y680, hy680⟩ : ∃ y_ : List (List Int), y_ = (([] : List (List Int))) := ⟨_, rfl⟩
 rw [← hy680] at H
 have Ny680 := Aside0.mk hy680
 clear hy680
 have H' := Aside0.mk H
 clear H
 go_enter Tryz.func34, Tryz.ntmps34
 go_wp2_with (first | ((with_reducible refine gate_dst (N := 6) rfl ?_); refine Kd.S_lit (Kd.slice 3 (Kd.int .i64)) _ 25 ?hg (N := 6) ?hd (xs := ([] : List (List Int))) (inner := []) (ok := fun _ => True) (okp := fun _ => True) ?hr ?hp (fun _ hk => hk) trivial (Below.refl _ _) (Nat.le_refl _) (by simp) ?_; (case hd => rfl); (case hg => rfl); (case hr => first | (go_simp; done) | (go_simp; rfl)); (case hp => exact (Reps.none _ _)); intro v681 w2 ho3 hb hg_ hnew_; clear hg_ hnew_; (first | rw [← Ny680.out] at ho3 | (simp only [Int.reduceToNat] at ho3; rw [← Ny680.out] at ho3)); have HO682 := Aside0.mk (Kd.S_lower ho3 (below_size (bW HB))); replace HB := uB HB hb; clear hb ho3))
 (try simp only [Act.put, List.setIfInBounds_toArray, List.set_cons_zero, List.set_cons_succ])
 go_loopg [3, 4] k (fun kq v3 v4 w' => ∃ (x3_1 : List (List Int)) (x4_1 : Int), v4 = .int .i64 x4_1 ∧ Aside0 (spec_l17Caves.l0 kq l0 x3_1 x4_1 = some r) ∧ Aside0 (kq ≤ k) ∧ Aside0 (Kd.S (Kd.slice 3 (Kd.int .i64)) 25 w' w.heap.size (fun _ => True) v3 x3_1) ∧ Aside0 (Below w.heap.size w w'))
 case atStart => exact ⟨(y680), (0), rB, H', ⟨Nat.le_refl _⟩, ⟨upS HO682.out⟩, (aB HB)⟩
 case round =>
  clear H'
  obtain ⟨x3_1, x4_1, rfl, HA, HK1, HO_3, HB⟩ := hrel
  cases gk with
  | zero => exact absurd HA.out (by simp [spec_l17Caves.l0])
  | succ k1 =>
   have H := HA.out
   clear HA
   simp only [spec_l17Caves.l0] at H
   replace H := ifD H
   rcases H with ⟨H, -, c4b0⟩ | ⟨H, -, c4b0⟩
   ·replace H := bA H
    obtain ⟨t683, A5, H⟩ := H
    replace H := bA H
    obtain ⟨t686, A6, H⟩ := H
    rcases Bool.eq_false_or_eq_true t686 with rfl | rfl
    ·replace H := iT rfl H
     replace H := zM H
     obtain ⟨c8, H⟩ := H
     have c8b0 : decide (0 < (t683.length : Int)) = true := decide_eq_true c8
     have c8b1 : decide (0 < t683.length) = true := decide_eq_true (by omega)
     clear c8
     replace H := ifI H
     rcases H with ⟨H, -, c9b0, c9b1⟩ | ⟨H, c9, c9b0, c9b1⟩
     ·replace H := zM H
      obtain ⟨c10, H⟩ := H
      have LMc10 := Aside0.mk c10
      clear c10
      obtain ⟨y688, hy688⟩ : ∃ y_ : List (List Int), y_ = (x3_1 ++ [t683]) := ⟨_, rfl⟩
      rw [← hy688] at H
      have Ny688 := Aside0.mk hy688
      clear hy688
      have H' := Aside0.mk H
      clear H
      go_wp2_with (first | ((with_reducible refine gC 32 ?_); refine zG (some 13) Tryz.func32 (spec_l17Cave.calls k1 _ _ l0 x4_1 (-1) t683 _ (zCB HR0 HB) (HC0.out) A5.out) ?_; rintro e w11 ⟨v684, rfl, ho0, hb⟩; refine ⟨_, rfl, ?_⟩; have HO685 := Aside0.mk (Kd.R_lower ho0 (below_size (bW HB))); replace HO_3 := Aside0.mk (Kd.S_elder' (upS HO_3.out) (Kd.R_base ho0) hb); replace HB := uB HB hb; (try clear hb); (try clear hk); (try clear ho0)) | ((with_reducible refine gC 57 ?_); refine lA (some 16) Tryz.func57 (spec_l17Used.calls k1 _ _ l0 x4_1 true _ ?side1 ?side2 A6.out) ?_; (case side1 => exact zCB HR0 HB); (case side2 => exact HC0.out); rintro _ ⟨nd, rfl⟩; obtain ⟨Ao12, co12, eo12⟩ := Kd.R_slice HO685.out; subst eo12; have p687 : 0 ≤ (0 : Int) := (by omega); have q687 : 0 < (t683.length : Int) := of_decide_eq_true asmB; obtain ⟨ad687, e687, hx687_0⟩ := Kd.at_int (Kd.R_reads' HO685.out).2.2 0 p687 q687; cases e687; have qi687 : (0 < t683.length) = True := eq_true (by omega); (try rw [show ((0 : Int)).toNat = 0 from rfl] at hx687_0); (try rw [Addr.add_zero'] at hx687_0); replace p687 := eq_true p687; replace q687 := eq_true q687) | ((with_reducible refine gate_builtin (b := .append) (xs := #[.tmp 24, .tmp 26]) rfl ?_); at_builtin; refine Kd.S_append (Kd.slice 3 (Kd.int .i64)) (w0 := w) w.heap.size rfl (.tmp 24) (.tmp 26) 39 25 (.slice none 0 0) 24 rfl Tryz.underlying39 info25 rfl (by decide) (by omega) u3 x3_1 t683 [.slice (some ad687) t683.length co12] (fun _ => True) (fun k_ => some k_ = (.slice (some ad687) t683.length co12 : Value).ownBlock) rfl rfl ?aP (fun k_ hk_ => ((Kd.R_mono (ok' := fun k_ => ((fun _ => True)) k_ ∧ some k_ ≠ (u3 : Value).ownBlock) (Kd.R_apart' (HO685.out) (Kd.S_typed HO_3.out) (by decide)) (fun k_ hk => ⟨trivial, hk.2⟩))).1 k_ hk_.symm) ?aF ?aO ?aB ?aS ?aL ?_; (case aP => exact Kd.M_row (Kd.R_mono (Kd.R_tight rfl (Kd.R_mono (ok' := fun k_ => ((fun _ => True)) k_ ∧ some k_ ≠ (u3 : Value).ownBlock) (Kd.R_apart' (HO685.out) (Kd.S_typed HO_3.out) (by decide)) (fun k_ hk => ⟨trivial, hk.2⟩))) (fun _ h_ => h_))); (case aB => exact (bW HB)); (case aF => exact (fun _ _ => trivial)); (case aO => exact (by (with_reducible repeat (first | apply Kd.S_alloc | apply Kd.S_drewN | apply Kd.S_drew)); exact Kd.S_mono HO_3.out (fun k_ hk => ⟨trivial, fun e_ => hk.2 e_⟩))); (case aS => exact (below_size (bW HB))); (case aL => have := LMc10.out; omega); intro v689 w13 ho hb hg hat; rw [← Ny688.out] at ho; have HO690 := Aside0.mk (ho); replace HB := Aside0.mk (hb); clear HO_3 HO685; clear ho hb hg hat))
      go_roundg k1
      case measure => have := HK1.out; omega
      case rel => exact ⟨(y688), (wrap64 (x4_1 + 1)), rB, H', ⟨by have := HK1.out; omega⟩, ⟨upS HO690.out⟩, (aB HB)⟩
     ·have H' := Aside0.mk H
      clear H
      go_wp2_with (first | ((with_reducible refine gC 32 ?_); refine zG (some 13) Tryz.func32 (spec_l17Cave.calls k1 _ _ l0 x4_1 (-1) t683 _ (zCB HR0 HB) (HC0.out) A5.out) ?_; rintro e w14 ⟨v684, rfl, ho0, hb⟩; refine ⟨_, rfl, ?_⟩; have HO685 := Aside0.mk (Kd.R_lower ho0 (below_size (bW HB))); replace HO_3 := Aside0.mk (Kd.S_elder' (upS HO_3.out) (Kd.R_base ho0) hb); replace HB := uB HB hb; (try clear hb); (try clear hk); (try clear ho0)) | ((with_reducible refine gC 57 ?_); refine lA (some 16) Tryz.func57 (spec_l17Used.calls k1 _ _ l0 x4_1 true _ ?side1 ?side2 A6.out) ?_; (case side1 => exact zCB HR0 HB); (case side2 => exact HC0.out); rintro _ ⟨nd, rfl⟩; obtain ⟨Ao15, co15, eo15⟩ := Kd.R_slice HO685.out; subst eo15; have p687 : 0 ≤ (0 : Int) := (by omega); have q687 : 0 < (t683.length : Int) := of_decide_eq_true asmB; obtain ⟨ad687, e687, hx687_0⟩ := Kd.at_int (Kd.R_reads' HO685.out).2.2 0 p687 q687; cases e687; have qi687 : (0 < t683.length) = True := eq_true (by omega); (try rw [show ((0 : Int)).toNat = 0 from rfl] at hx687_0); (try rw [Addr.add_zero'] at hx687_0); replace p687 := eq_true p687; replace q687 := eq_true q687))
      go_roundg k1
      case measure => have := HK1.out; omega
      case rel => exact ⟨(x3_1), (wrap64 (x4_1 + 1)), rB, H', ⟨by have := HK1.out; omega⟩, ⟨by (with_reducible repeat (first | apply Kd.S_alloc | apply Kd.S_drewN | apply Kd.S_drew)); exact Kd.S_mono HO_3.out (fun _ hk => trivial)⟩, (aB HB)⟩
    ·replace H := iF (by decide) H
     have H' := Aside0.mk H
     clear H
     go_wp2_with (first | ((with_reducible refine gC 32 ?_); refine zG (some 13) Tryz.func32 (spec_l17Cave.calls k1 _ _ l0 x4_1 (-1) t683 _ (zCB HR0 HB) (HC0.out) A5.out) ?_; rintro e w16 ⟨v684, rfl, ho0, hb⟩; refine ⟨_, rfl, ?_⟩; have HO685 := Aside0.mk (Kd.R_lower ho0 (below_size (bW HB))); replace HO_3 := Aside0.mk (Kd.S_elder' (upS HO_3.out) (Kd.R_base ho0) hb); replace HB := uB HB hb; (try clear hb); (try clear hk); (try clear ho0)) | ((with_reducible refine gC 57 ?_); refine lA (some 16) Tryz.func57 (spec_l17Used.calls k1 _ _ l0 x4_1 false _ ?side1 ?side2 A6.out) ?_; (case side1 => exact zCB HR0 HB); (case side2 => exact HC0.out); rintro _ ⟨nd, rfl⟩))
     go_roundg k1
     case measure => have := HK1.out; omega
     case rel => exact ⟨(x3_1), (wrap64 (x4_1 + 1)), rB, H', ⟨by have := HK1.out; omega⟩, ⟨by (with_reducible repeat (first | apply Kd.S_alloc | apply Kd.S_drewN | apply Kd.S_drew)); exact Kd.S_mono HO_3.out (fun _ hk => trivial)⟩, (aB HB)⟩
   ·obtain rfl := Option.some.inj H
    go_wp2
    go_ret
    exact ⟨_, eB, upS HO_3.out, (bW HB)⟩

/-! ### spec_l17Length: function 35 -/
def spec_l17Length.l0 : Nat → List (S32) → List Int → Int → Int → Option (Int)
 | 0, _, _, _, _ => none
 | k + 1, x0, x5, x6, x7 => if x7 < (x0.length : Int) then (if 0 ≤ x7 then ((spec_l1Has.f k x5 ((rd_T32 x0 x7).f0)).bind fun t695 => (if t695 = true then (spec_l17Length.l0 k x0 x5 (wrap64 (x6 + ((rd_T32 x0 x7).f2))) (wrap64 (x7 + 1))) else (spec_l17Length.l0 k x0 x5 x6 (wrap64 (x7 + 1))))) else (none)) else (some x6)
def spec_l17Length.f (k : Nat) (l0 : List (S32)) (a1 : Int) : Option (Int) := (spec_l17Cave.f k l0 a1 (-1)).bind fun t691 => (spec_l17Length.l0 k l0 t691 0 0)
theorem spec_l17Length.mono_l : ∀ k, (∀ y0 y1 y2 y3, LeO (spec_l17Length.l0 k y0 y1 y2 y3) (spec_l17Length.l0 (k + 1) y0 y1 y2 y3))
 | 0 => fun _ _ _ _ r h => by simp [spec_l17Length.l0] at h
 | k + 1 => by
  have ih0 := spec_l17Length.mono_l k
  ·intro y0 y1 y2 y3
   unfold spec_l17Length.l0
   repeat' with_reducible first | apply ih0 | apply spec_l17Cave.mono | apply spec_l1Has.mono | exact LeO.refl _ | exact LeO.none _ | refine LeO.ite ?_ ?_ | refine LeO.bind ?_ (fun _ => ?_)
theorem spec_l17Length.mono : ∀ a0 a1 k, LeO (spec_l17Length.f k a0 a1) (spec_l17Length.f (k + 1) a0 a1) := by
 intro a0 a1 k
 have ih0 := spec_l17Length.mono_l k
 unfold spec_l17Length.f
 repeat' with_reducible first | apply ih0 | apply spec_l17Cave.mono | apply spec_l1Has.mono | exact LeO.refl _ | exact LeO.none _ | refine LeO.ite ?_ ?_ | refine LeO.bind ?_ (fun _ => ?_)
set_option maxHeartbeats 8000000 in
set_option maxRecDepth 100000 in
theorem spec_l17Length.calls (k : Nat) (A0 : Option Addr) (c0 : Nat) (l0 : List (S32)) (a1 r : Int) (w : World) (hr0 : Kd.C k32 w A0 l0.length l0) (hc0 : l0.length ≤ c0) (h : spec_l17Length.f k l0 a1 = some r) :
 Calls Tryz.prog 35 #[.slice A0 l0.length c0, .int .i64 a1] w fun e w' => e = .returned (.int .i64 r) ∧ Below w.heap.size w w' := by
 have HR0 := Aside0.mk hr0
 have HC0 := Aside0.mk hc0
 clear hr0 hc0
 have HB := Aside0.mk (Below.refl w.heap.size w)
 have H := h
 clear h
 unfold spec_l17Length.f at H
 replace H := bA H
 obtain ⟨t691, A3, H⟩ := H
 have H' := Aside0.mk H
 clear H
 go_enter Tryz.func35, Tryz.ntmps35
 go_wp2_with (first | ((with_reducible refine gC 32 ?_); refine zG (some 10) Tryz.func32 (spec_l17Cave.calls k _ _ l0 a1 (-1) t691 _ (zC HR0) (HC0.out) A3.out) ?_; rintro e w4 ⟨v692, rfl, ho0, hb⟩; refine ⟨_, rfl, ?_⟩; have HO693 := Aside0.mk (Kd.R_lower ho0 (below_size (bW HB))); replace HB := uB HB hb; (try clear hb); (try clear ho0)))
 (try simp only [Act.put, List.setIfInBounds_toArray, List.set_cons_zero, List.set_cons_succ])
 go_loopg [6, 7] k (fun kq v6 v7 w' => ∃ (x6_1 x7_1 : Int), v6 = .int .i64 x6_1 ∧ v7 = .int .i64 x7_1 ∧ Aside0 (spec_l17Length.l0 kq l0 t691 x6_1 x7_1 = some r) ∧ Aside0 (kq ≤ k) ∧ Aside0 (Kd.R (Kd.int .i64) 3 w' w.heap.size (fun _ => True) v692 t691) ∧ Aside0 (Below w.heap.size w w'))
 case atStart => exact ⟨(0), (0), rB, rB, H', ⟨Nat.le_refl _⟩, ⟨upR HO693.out⟩, (aB HB)⟩
 case round =>
  clear H'
  obtain ⟨x6_1, x7_1, rfl, rfl, HA, HK1, HO_5, HB⟩ := hrel
  cases gk with
  | zero => exact absurd HA.out (by simp [spec_l17Length.l0])
  | succ k1 =>
   have H := HA.out
   clear HA
   simp only [spec_l17Length.l0] at H
   replace H := ifD H
   rcases H with ⟨H, -, c5b0⟩ | ⟨H, -, c5b0⟩
   ·replace H := zN H
    obtain ⟨c6b0, H⟩ := H
    replace H := bA H
    obtain ⟨t695, A7, H⟩ := H
    rcases Bool.eq_false_or_eq_true t695 with rfl | rfl
    ·replace H := iT rfl H
     have H' := Aside0.mk H
     clear H
     obtain ⟨ad694, e694, hx694_0, hx694_1, hx694_2, hx694_3, hx694_4, p694, q694⟩ := zT HR0 HB x7_1
     cases e694
     obtain ⟨Ao9, co9, eo9⟩ := Kd.R_slice HO_5.out
     subst eo9
     go_wp2_with (first | ((with_reducible refine gC 43 ?_); refine lA (some 23) Tryz.func43 (spec_l1Has.calls k1 _ _ t691 ((rd_T32 l0 x7_1).f0) true _ ?side1 ?side2 A7.out) ?_; (case side1 => exact zCR HO_5); (case side2 => exact (Kd.R_reads' HO_5.out).2.1); rintro _ ⟨nd, rfl⟩; obtain ⟨ad696, e696, hx696_0, hx696_1, hx696_2, hx696_3, hx696_4, p696, q696⟩ := zT HR0 HB x7_1; obtain rfl : ad694 = ad696 := (by injection e696)))
     go_roundg k1
     case measure => have := HK1.out; omega
     case rel => exact ⟨(wrap64 (x6_1 + ((rd_T32 l0 x7_1).f2))), (wrap64 (x7_1 + 1)), rB, rB, H', ⟨by have := HK1.out; omega⟩, ⟨upR HO_5.out⟩, (aB HB)⟩
    ·replace H := iF (by decide) H
     have H' := Aside0.mk H
     clear H
     obtain ⟨ad694, e694, hx694_0, hx694_1, hx694_2, hx694_3, hx694_4, p694, q694⟩ := zT HR0 HB x7_1
     cases e694
     obtain ⟨Ao10, co10, eo10⟩ := Kd.R_slice HO_5.out
     subst eo10
     go_wp2_with (first | ((with_reducible refine gC 43 ?_); refine lA (some 23) Tryz.func43 (spec_l1Has.calls k1 _ _ t691 ((rd_T32 l0 x7_1).f0) false _ ?side1 ?side2 A7.out) ?_; (case side1 => exact zCR HO_5); (case side2 => exact (Kd.R_reads' HO_5.out).2.1); rintro _ ⟨nd, rfl⟩))
     go_roundg k1
     case measure => have := HK1.out; omega
     case rel => exact ⟨(x6_1), (wrap64 (x7_1 + 1)), rB, rB, H', ⟨by have := HK1.out; omega⟩, ⟨upR HO_5.out⟩, (aB HB)⟩
   ·obtain rfl := Option.some.inj H
    go_wp2
    go_ret
    exact ⟨eB, (bW HB)⟩

end Go.Proofs.YtmfidodcpbochaaGreat.QFnSteps
