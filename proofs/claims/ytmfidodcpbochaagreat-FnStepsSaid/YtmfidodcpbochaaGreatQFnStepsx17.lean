/- Contracts of Go functions that FnSteps reaches: the call computes what the plain function says. No condition. -/
import Derived.Test.YtmfidodcpbochaaGreatQFnStepsx0
import Derived.Test.YtmfidodcpbochaaGreatQFnStepsx8
import Derived.Test.YtmfidodcpbochaaGreatQFnStepsx16
namespace Go.Proofs.YtmfidodcpbochaaGreat.QFnSteps
open Go.RowKit Go.Proofs.YtmfidodcpbochaaGreatW.PrintWords Go.Proofs.YtmfidodcpbochaaGreatW.PrintLast Go.Proofs.YtmfidodcpbochaaGreatW.PrintMore
attribute [local go_sem] max2_int min2_int max_two min_two max_three min_three max_four min_four   -- for this text's walks alone
set_option linter.unusedVariables false
set_option linter.unusedSimpArgs false

/-! ### spec_LongestCave: function 20 -/
mutual
def spec_LongestCave.j0 : Nat → List (S32) → Bool → Option (Int × Int × Bool)
 | 0, _, _ => none
 | k + 1, x0, x17 => if x17 = true then (some (0, 0, false)) else ((spec_l17Caves.f k x0).bind fun t698 => (spec_LongestCave.l0 k x0 t698 0 (-1) 0))
def spec_LongestCave.l0 : Nat → List (S32) → List (List Int) → Int → Int → Int → Option (Int × Int × Bool)
 | 0, _, _, _, _, _ => none
 | k + 1, x0, x5, x6, x7, x8 => if x8 < (x5.length : Int) then (if 0 ≤ x8 then (if 0 < ((rd_L4 x5 x8).length : Int) then ((spec_l17Length.f k x0 (rd (rd_L4 x5 x8) 0)).bind fun t703 => (if t703 > x7 then (spec_LongestCave.l0 k x0 x5 (rd (rd_L4 x5 x8) 0) t703 (wrap64 (x8 + 1))) else (spec_LongestCave.l0 k x0 x5 x6 x7 (wrap64 (x8 + 1))))) else (none)) else (none)) else (some (x6, x7, true))
end
def spec_LongestCave.f (k : Nat) (l0 : List (S32)) : Option (Int × Int × Bool) := (spec_l4Legs.f k l0).bind fun t697 => (if t697 = true then (spec_LongestCave.j0 k l0 ((l0.length : Int) == 0)) else (spec_LongestCave.j0 k l0 true))
theorem spec_LongestCave.mono_l : ∀ k, (∀ y0 y1, LeO (spec_LongestCave.j0 k y0 y1) (spec_LongestCave.j0 (k + 1) y0 y1)) ∧ (∀ y0 y1 y2 y3 y4, LeO (spec_LongestCave.l0 k y0 y1 y2 y3 y4) (spec_LongestCave.l0 (k + 1) y0 y1 y2 y3 y4))
 | 0 => ⟨fun _ _ r h => by simp [spec_LongestCave.j0] at h, fun _ _ _ _ _ r h => by simp [spec_LongestCave.l0] at h⟩
 | k + 1 => by
  obtain ⟨ih0, ih1⟩ := spec_LongestCave.mono_l k
  refine ⟨?_, ?_⟩
  ·intro y0 y1
   unfold spec_LongestCave.j0
   repeat' with_reducible first | apply ih0 | apply ih1 | apply spec_l17Caves.mono | apply spec_l17Length.mono | apply spec_l4Legs.mono | exact LeO.refl _ | exact LeO.none _ | refine LeO.ite ?_ ?_ | refine LeO.bind ?_ (fun _ => ?_)
  ·intro y0 y1 y2 y3 y4
   unfold spec_LongestCave.l0
   repeat' with_reducible first | apply ih0 | apply ih1 | apply spec_l17Caves.mono | apply spec_l17Length.mono | apply spec_l4Legs.mono | exact LeO.refl _ | exact LeO.none _ | refine LeO.ite ?_ ?_ | refine LeO.bind ?_ (fun _ => ?_)
theorem spec_LongestCave.mono : ∀ a0 k, LeO (spec_LongestCave.f k a0) (spec_LongestCave.f (k + 1) a0) := by
 intro a0 k
 obtain ⟨ih0, ih1⟩ := spec_LongestCave.mono_l k
 unfold spec_LongestCave.f
 repeat' with_reducible first | apply ih0 | apply ih1 | apply spec_l17Caves.mono | apply spec_l17Length.mono | apply spec_l4Legs.mono | exact LeO.refl _ | exact LeO.none _ | refine LeO.ite ?_ ?_ | refine LeO.bind ?_ (fun _ => ?_)
set_option maxHeartbeats 8000000 in
set_option maxRecDepth 100000 in
theorem spec_LongestCave.calls (k : Nat) (A0 : Option Addr) (c0 : Nat) (l0 : List (S32)) (r1 r2 : Int) (r3 : Bool) (w : World) (hr0 : Kd.C k32 w A0 l0.length l0) (hc0 : l0.length ≤ c0) (h : spec_LongestCave.f k l0 = some (r1, r2, r3)) :
 Calls Tryz.prog 20 #[.slice A0 l0.length c0] w fun e w' => e = .returned (.tuple #[.int .i64 r1, .int .i64 r2, .bool r3]) ∧ Below w.heap.size w w' := by
 have HR0 := Aside0.mk hr0
 have HC0 := Aside0.mk hc0
 clear hr0 hc0
 have HB := Aside0.mk (Below.refl w.heap.size w)
 have H := h
 clear h
 unfold spec_LongestCave.f at H
 have HC2 := Aside0.mk H
 clear H
 go_enter Tryz.func20, Tryz.ntmps20
 go_upto_region 1 with (fail)
 go_cut [17] (fun v17 wc => ∃ (kq : Nat) (x17_1 : Bool), v17 = .bool x17_1 ∧ Aside0 (spec_LongestCave.j0 kq l0 x17_1 = some (r1, r2, r3)) ∧ Aside0 (kq ≤ k) ∧ Aside0 (Below w.heap.size w wc))
 case first =>
  have H := HC2.out
  clear HC2
  replace H := bA H
  obtain ⟨t697, A3, H⟩ := H
  rcases Bool.eq_false_or_eq_true t697 with rfl | rfl
  ·replace H := iT rfl H
   have H' := Aside0.mk H
   clear H
   go_wp2_with (first | ((with_reducible refine gC 31 ?_); refine lA (some 11) Tryz.func31 (spec_l4Legs.calls k _ _ l0 true _ ?side1 ?side2 A3.out) ?_; (case side1 => exact zCB HR0 HB); (case side2 => exact HC0.out); intro w5 hb; replace HB := uB HB hb; (try clear hb)))
   go_meet
   case rel => exact ⟨_, (((l0.length : Int) == 0)), rB, H', leB, (aB HB)⟩
  ·replace H := iF (by decide) H
   have H' := Aside0.mk H
   clear H
   go_wp2_with (first | ((with_reducible refine gC 31 ?_); refine lA (some 11) Tryz.func31 (spec_l4Legs.calls k _ _ l0 false _ ?side1 ?side2 A3.out) ?_; (case side1 => exact zCB HR0 HB); (case side2 => exact HC0.out); intro w6 hb; replace HB := uB HB hb; (try clear hb)))
   go_meet
   case rel => exact ⟨_, (true), rB, H', leB, (aB HB)⟩
 case rest =>
  clear HC2
  obtain ⟨kq, x17_1, rfl, HA, HJ1, HB⟩ := hcut
  cases kq with
  | zero => exact absurd HA.out (by simp [spec_LongestCave.j0])
  | succ kj1 =>
   have H := HA.out
   clear HA
   simp only [spec_LongestCave.j0] at H
   rcases Bool.eq_false_or_eq_true x17_1 with rfl | rfl
   ·replace H := iT rfl H
    simp only [Option.some.injEq, Prod.mk.injEq] at H
    obtain ⟨rfl, rfl, rfl⟩ := H
    go_wp2
    go_ret3
    exact ⟨eB, (bW HB)⟩
   ·replace H := iF (by decide) H
    replace H := bA H
    obtain ⟨t698, A8, H⟩ := H
    have H' := Aside0.mk H
    clear H
    go_wp2_with (first | ((with_reducible refine gC 34 ?_); refine zG (some 19) Tryz.func34 (spec_l17Caves.calls kj1 _ _ l0 t698 _ (zCB HR0 HB) (HC0.out) A8.out) ?_; rintro e w9 ⟨v699, rfl, ho0, hb⟩; refine ⟨_, rfl, ?_⟩; have HO700 := Aside0.mk (Kd.S_lower ho0 (below_size (bW HB))); replace HB := uB HB hb; (try clear hb); (try clear ho0)))
    (try simp only [Act.put, List.setIfInBounds_toArray, List.set_cons_zero, List.set_cons_succ])
    go_loopg [6, 7, 8] kj1 (fun kq v6 v7 v8 w' => ∃ (x6_2 x7_2 x8_2 : Int), v6 = .int .i64 x6_2 ∧ v7 = .int .i64 x7_2 ∧ v8 = .int .i64 x8_2 ∧ Aside0 (spec_LongestCave.l0 kq l0 t698 x6_2 x7_2 x8_2 = some (r1, r2, r3)) ∧ Aside0 (kq ≤ kj1) ∧ Aside0 (Kd.S (Kd.slice 3 (Kd.int .i64)) 25 w' w.heap.size (fun _ => True) v699 t698) ∧ Aside0 (Below w.heap.size w w'))
    case atStart => exact ⟨(0), ((-1)), (0), rB, rB, rB, H', ⟨Nat.le_refl _⟩, ⟨upS HO700.out⟩, (aB HB)⟩
    case round =>
     clear H'
     obtain ⟨x6_2, x7_2, x8_2, rfl, rfl, rfl, HA, HK2, HO_5, HB⟩ := hrel
     cases gk with
     | zero => exact absurd HA.out (by simp [spec_LongestCave.l0])
     | succ k2 =>
      have H := HA.out
      clear HA
      simp only [spec_LongestCave.l0] at H
      replace H := ifD H
      rcases H with ⟨H, -, c10b0⟩ | ⟨H, -, c10b0⟩
      ·replace H := zN H
       obtain ⟨c11b0, H⟩ := H
       replace H := zM H
       obtain ⟨c12, H⟩ := H
       have c12b0 : decide (0 < ((rd_L4 t698 x8_2).length : Int)) = true := decide_eq_true c12
       have c12b1 : decide (0 < (rd_L4 t698 x8_2).length) = true := decide_eq_true (by omega)
       clear c12
       replace H := bA H
       obtain ⟨t703, A13, H⟩ := H
       replace H := ifD H
       rcases H with ⟨H, -, c14b0⟩ | ⟨H, -, c14b0⟩
       ·have H' := Aside0.mk H
        clear H
        obtain ⟨Ao15, co15, eo15⟩ := Kd.S_slice HO_5.out
        subst eo15
        have p701 : 0 ≤ (x8_2 : Int) := of_decide_eq_true asmB
        have q701 : x8_2 < (t698.length : Int) := of_decide_eq_true asmB
        obtain ⟨ad701, A701_0, c701_0, e701, hx701_0, hl701_0, hi701_0⟩ := at_L4 (Kd.S_reads' HO_5.out).2.2 x8_2 p701 q701
        cases e701
        obtain ⟨ce701, hce701, hMe701, hcc701⟩ := Kd.S_get HO_5.out [] x8_2 p701 (by first | exact q701 | exact of_decide_eq_true asmB | (have e_ := (Kd.S_reads' HO_5.out).1; omega))
        obtain ⟨ve701_0, rfl, ge701_0⟩ := hMe701
        have hv701_0 := hcc701 0 _ rfl
        rw [Nat.add_zero, show ((Kd.slice 3 (Kd.int .i64))).sz = 1 from rfl, Nat.mul_one] at hv701_0
        replace hv701_0 := Option.some.inj (hv701_0.symm.trans hx701_0)
        rw [hv701_0] at ge701_0
        have HL701_0 := Aside0.mk (show Kd.R (Kd.int .i64) 3 _ _ _ _ (rd_L4 t698 x8_2) from ge701_0)
        clear hv701_0 ge701_0
        clear hcc701 hce701
        have HR701_0 := Aside0.mk hi701_0
        have HC701_0 := Aside0.mk hl701_0
        clear hi701_0 hl701_0
        replace p701 := eq_true p701
        replace q701 := eq_true q701
        have p702 : 0 ≤ (0 : Int) := (by omega)
        have q702 : 0 < ((rd_L4 t698 x8_2).length : Int) := of_decide_eq_true asmB
        obtain ⟨ad702, e702, hx702_0⟩ := Kd.at_int (by repeat (first | (with_reducible exact HR701_0.out) | (with_reducible refine Kd.C_alloc ?_ _) | (with_reducible refine Kd.C_drewN ?_ _) | (with_reducible refine Kd.C_drew ?_) | exact HR701_0.out)) 0 p702 q702
        cases e702
        have qi702 : (0 < (rd_L4 t698 x8_2).length) = True := eq_true (by omega)
        (try rw [show ((0 : Int)).toNat = 0 from rfl] at hx702_0)
        (try rw [Addr.add_zero'] at hx702_0)
        replace p702 := eq_true p702
        replace q702 := eq_true q702
        go_wp2_with (first | ((with_reducible refine gC 35 ?_); refine lA (some 33) Tryz.func35 (spec_l17Length.calls k2 _ _ l0 (rd (rd_L4 t698 x8_2) 0) t703 _ ?side1 ?side2 A13.out) ?_; (case side1 => exact zCB HR0 HB); (case side2 => exact HC0.out); intro w16 hb; replace HO_5 := Aside0.mk (Kd.S_below (upS HO_5.out) hb); replace HL701_0 := Aside0.mk (Kd.R_below (upR HL701_0.out) hb); replace HR701_0 := Aside0.mk (Kd.C_below (by repeat (first | (with_reducible exact HR701_0.out) | (with_reducible refine Kd.C_alloc ?_ _) | (with_reducible refine Kd.C_drewN ?_ _) | (with_reducible refine Kd.C_drew ?_) | exact HR701_0.out)) hb); replace HB := uB HB hb; (try clear hb); have p704 : 0 ≤ (x8_2 : Int) := of_decide_eq_true asmB; have q704 : x8_2 < (t698.length : Int) := of_decide_eq_true asmB; obtain ⟨ad704, A704_0, c704_0, e704, hx704_0, hl704_0, hi704_0⟩ := at_L4 (Kd.S_reads' HO_5.out).2.2 x8_2 p704 q704; obtain rfl : ad701 = ad704 := (by injection e704); obtain ⟨ce704, hce704, hMe704, hcc704⟩ := Kd.S_get HO_5.out [] x8_2 p704 (by first | exact q704 | exact of_decide_eq_true asmB | (have e_ := (Kd.S_reads' HO_5.out).1; omega)); obtain ⟨ve704_0, rfl, ge704_0⟩ := hMe704; have hv704_0 := hcc704 0 _ rfl; rw [Nat.add_zero, show ((Kd.slice 3 (Kd.int .i64))).sz = 1 from rfl, Nat.mul_one] at hv704_0; replace hv704_0 := Option.some.inj (hv704_0.symm.trans hx704_0); rw [hv704_0] at ge704_0; have HL704_0 := Aside0.mk (show Kd.R (Kd.int .i64) 3 _ _ _ _ (rd_L4 t698 x8_2) from ge704_0); clear hv704_0 ge704_0; clear hcc704 hce704; have HR704_0 := Aside0.mk hi704_0; have HC704_0 := Aside0.mk hl704_0; clear hi704_0 hl704_0; replace p704 := eq_true p704; replace q704 := eq_true q704; have p705 : 0 ≤ (0 : Int) := (by omega); have q705 : 0 < ((rd_L4 t698 x8_2).length : Int) := of_decide_eq_true asmB; obtain ⟨ad705, e705, hx705_0⟩ := Kd.at_int (by repeat (first | (with_reducible exact HR704_0.out) | (with_reducible refine Kd.C_alloc ?_ _) | (with_reducible refine Kd.C_drewN ?_ _) | (with_reducible refine Kd.C_drew ?_) | exact HR704_0.out)) 0 p705 q705; cases e705; have qi705 : (0 < (rd_L4 t698 x8_2).length) = True := eq_true (by omega); (try rw [show ((0 : Int)).toNat = 0 from rfl] at hx705_0); (try rw [Addr.add_zero'] at hx705_0); replace p705 := eq_true p705; replace q705 := eq_true q705))
        go_roundg k2
        case measure => have := HJ1.out; have := HK2.out; omega
        case rel => exact ⟨(rd (rd_L4 t698 x8_2) 0), (t703), (wrap64 (x8_2 + 1)), rB, rB, rB, H', ⟨by have := HJ1.out; have := HK2.out; omega⟩, ⟨upS HO_5.out⟩, (aB HB)⟩
       ·have H' := Aside0.mk H
        clear H
        obtain ⟨Ao17, co17, eo17⟩ := Kd.S_slice HO_5.out
        subst eo17
        have p701 : 0 ≤ (x8_2 : Int) := of_decide_eq_true asmB
        have q701 : x8_2 < (t698.length : Int) := of_decide_eq_true asmB
        obtain ⟨ad701, A701_0, c701_0, e701, hx701_0, hl701_0, hi701_0⟩ := at_L4 (Kd.S_reads' HO_5.out).2.2 x8_2 p701 q701
        cases e701
        obtain ⟨ce701, hce701, hMe701, hcc701⟩ := Kd.S_get HO_5.out [] x8_2 p701 (by first | exact q701 | exact of_decide_eq_true asmB | (have e_ := (Kd.S_reads' HO_5.out).1; omega))
        obtain ⟨ve701_0, rfl, ge701_0⟩ := hMe701
        have hv701_0 := hcc701 0 _ rfl
        rw [Nat.add_zero, show ((Kd.slice 3 (Kd.int .i64))).sz = 1 from rfl, Nat.mul_one] at hv701_0
        replace hv701_0 := Option.some.inj (hv701_0.symm.trans hx701_0)
        rw [hv701_0] at ge701_0
        have HL701_0 := Aside0.mk (show Kd.R (Kd.int .i64) 3 _ _ _ _ (rd_L4 t698 x8_2) from ge701_0)
        clear hv701_0 ge701_0
        clear hcc701 hce701
        have HR701_0 := Aside0.mk hi701_0
        have HC701_0 := Aside0.mk hl701_0
        clear hi701_0 hl701_0
        replace p701 := eq_true p701
        replace q701 := eq_true q701
        have p702 : 0 ≤ (0 : Int) := (by omega)
        have q702 : 0 < ((rd_L4 t698 x8_2).length : Int) := of_decide_eq_true asmB
        obtain ⟨ad702, e702, hx702_0⟩ := Kd.at_int (by repeat (first | (with_reducible exact HR701_0.out) | (with_reducible refine Kd.C_alloc ?_ _) | (with_reducible refine Kd.C_drewN ?_ _) | (with_reducible refine Kd.C_drew ?_) | exact HR701_0.out)) 0 p702 q702
        cases e702
        have qi702 : (0 < (rd_L4 t698 x8_2).length) = True := eq_true (by omega)
        (try rw [show ((0 : Int)).toNat = 0 from rfl] at hx702_0)
        (try rw [Addr.add_zero'] at hx702_0)
        replace p702 := eq_true p702
        replace q702 := eq_true q702
        go_wp2_with (first | ((with_reducible refine gC 35 ?_); refine lA (some 33) Tryz.func35 (spec_l17Length.calls k2 _ _ l0 (rd (rd_L4 t698 x8_2) 0) t703 _ ?side1 ?side2 A13.out) ?_; (case side1 => exact zCB HR0 HB); (case side2 => exact HC0.out); intro w18 hb; replace HO_5 := Aside0.mk (Kd.S_below (upS HO_5.out) hb); replace HL701_0 := Aside0.mk (Kd.R_below (upR HL701_0.out) hb); replace HR701_0 := Aside0.mk (Kd.C_below (by repeat (first | (with_reducible exact HR701_0.out) | (with_reducible refine Kd.C_alloc ?_ _) | (with_reducible refine Kd.C_drewN ?_ _) | (with_reducible refine Kd.C_drew ?_) | exact HR701_0.out)) hb); replace HB := uB HB hb; (try clear hb)))
        go_roundg k2
        case measure => have := HJ1.out; have := HK2.out; omega
        case rel => exact ⟨(x6_2), (x7_2), (wrap64 (x8_2 + 1)), rB, rB, rB, H', ⟨by have := HJ1.out; have := HK2.out; omega⟩, ⟨upS HO_5.out⟩, (aB HB)⟩
      ·simp only [Option.some.injEq, Prod.mk.injEq] at H
       obtain ⟨rfl, rfl, rfl⟩ := H
       obtain ⟨Ao19, co19, eo19⟩ := Kd.S_slice HO_5.out
       subst eo19
       go_wp2
       go_ret3
       exact ⟨eB, (bW HB)⟩

end Go.Proofs.YtmfidodcpbochaaGreat.QFnSteps
