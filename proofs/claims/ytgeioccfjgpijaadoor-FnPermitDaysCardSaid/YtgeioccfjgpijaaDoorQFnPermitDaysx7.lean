/- Contracts of Go functions that FnPermitDays reaches: the call computes what the plain function says. No condition. -/
import Derived.Test.YtgeioccfjgpijaaDoorQFnPermitDaysx0
import Derived.Test.YtgeioccfjgpijaaDoorQFnPermitDaysx2
import Derived.Test.YtgeioccfjgpijaaDoorQFnPermitDaysx3
import Derived.Test.YtgeioccfjgpijaaDoorQFnPermitDaysx5
import Derived.Test.YtgeioccfjgpijaaDoorQFnPermitDaysx6
namespace Go.Proofs.YtgeioccfjgpijaaDoor.QFnPermitDays
open Go.RowKit Go.Proofs.YtgeioccfjgpijaaDoorW.PrintWords Go.Proofs.YtgeioccfjgpijaaDoorW.PrintLast Go.Proofs.YtgeioccfjgpijaaDoorW.PrintMore
attribute [local go_sem] max2_int min2_int max_two min_two max_three min_three max_four min_four   -- for this text's walks alone
set_option linter.unusedVariables false
set_option linter.unusedSimpArgs false

/-! ### impl_FirstSlot: function 26 -/
mutual
def impl_FirstSlot.j0 : Nat → Int → List (List Int) → Bool → Option (Int × Bool)
 | 0, _, _, _ => none
 | k + 1, x3, x10, x27 => if x27 = true then (some (0, false)) else (impl_FirstSlot.l0 k x3 x10 (x10.length : Int) 0)
def impl_FirstSlot.l0 : Nat → Int → List (List Int) → Int → Int → Option (Int × Bool)
 | 0, _, _, _, _ => none
 | k + 1, x3, x28, x29, x30 => if x30 < x29 then (if 0 ≤ x30 then (if x30 < (x28.length : Int) then (if 1 < ((rd_L5 x28 x30).length : Int) then (if 0 < ((rd_L5 x28 x30).length : Int) then (if (wrap64 ((wrap64 ((rd (rd_L5 x28 x30) 1) - (rd (rd_L5 x28 x30) 0))) + 1)) ≥ x3 then (some (rd (rd_L5 x28 x30) 0, true)) else (impl_FirstSlot.l0 k x3 x28 x29 (wrap64 (x30 + 1)))) else (none)) else (none)) else (none)) else (none)) else (some (0, false))
end
def impl_FirstSlot.f (k : Nat) (l0 : List (S26)) (a1 : ByteArray) (a2 a3 : Int) : Option (Int × Bool) := (impl_FreeDays.f k l0 a1 a2 999).bind fun bt195 => (if bt195.2 = true then ((impl_within.f a3 1 100).bind fun t199 => (impl_FirstSlot.j0 k a3 bt195.1 (!t199))) else (impl_FirstSlot.j0 k a3 bt195.1 true))
theorem impl_FirstSlot.mono_l : ∀ k, (∀ y0 y1 y2, LeO (impl_FirstSlot.j0 k y0 y1 y2) (impl_FirstSlot.j0 (k + 1) y0 y1 y2)) ∧ (∀ y0 y1 y2 y3, LeO (impl_FirstSlot.l0 k y0 y1 y2 y3) (impl_FirstSlot.l0 (k + 1) y0 y1 y2 y3))
 | 0 => ⟨fun _ _ _ r h => by simp [impl_FirstSlot.j0] at h, fun _ _ _ _ r h => by simp [impl_FirstSlot.l0] at h⟩
 | k + 1 => by
  obtain ⟨ih0, ih1⟩ := impl_FirstSlot.mono_l k
  refine ⟨?_, ?_⟩
  ·intro y0 y1 y2
   unfold impl_FirstSlot.j0
   repeat' with_reducible first | apply ih0 | apply ih1 | apply impl_FreeDays.mono | exact LeO.refl _ | exact LeO.none _ | refine LeO.ite ?_ ?_ | refine LeO.bind ?_ (fun _ => ?_)
  ·intro y0 y1 y2 y3
   unfold impl_FirstSlot.l0
   repeat' with_reducible first | apply ih0 | apply ih1 | apply impl_FreeDays.mono | exact LeO.refl _ | exact LeO.none _ | refine LeO.ite ?_ ?_ | refine LeO.bind ?_ (fun _ => ?_)
theorem impl_FirstSlot.mono : ∀ a0 a1 a2 a3 k, LeO (impl_FirstSlot.f k a0 a1 a2 a3) (impl_FirstSlot.f (k + 1) a0 a1 a2 a3) := by
 intro a0 a1 a2 a3 k
 obtain ⟨ih0, ih1⟩ := impl_FirstSlot.mono_l k
 unfold impl_FirstSlot.f
 repeat' with_reducible first | apply ih0 | apply ih1 | apply impl_FreeDays.mono | exact LeO.refl _ | exact LeO.none _ | refine LeO.ite ?_ ?_ | refine LeO.bind ?_ (fun _ => ?_)
set_option maxHeartbeats 8000000 in
set_option maxRecDepth 100000 in
theorem impl_FirstSlot.calls (k : Nat) (A0 : Option Addr) (c0 : Nat) (l0 : List (S26)) (a1 : ByteArray) (a2 a3 r1 : Int) (r2 : Bool) (w : World) (hr0 : Kd.C k26 w A0 l0.length l0) (hc0 : l0.length ≤ c0) (h : impl_FirstSlot.f k l0 a1 a2 a3 = some (r1, r2)) :
  Calls Tryd.prog 26 #[.slice A0 l0.length c0, .string a1, .int .i64 a2, .int .i64 a3] w fun e w' => e = .returned (.tuple #[.int .i64 r1, .bool r2]) ∧ Below w.heap.size w w' := by
 have HR0 := Aside0.mk hr0
 have HC0 := Aside0.mk hc0
 clear hr0 hc0
 have HB := Aside0.mk (Below.refl w.heap.size w)
 have H := h
 clear h
 unfold impl_FirstSlot.f at H
 replace H := Option.bind_eq_some_iff.mp H
 obtain ⟨⟨t195, t196⟩, A50, H⟩ := H
 replace H : (if t196 = true then ((impl_within.f a3 1 100).bind fun t199 => (impl_FirstSlot.j0 k a3 t195 (!t199))) else (impl_FirstSlot.j0 k a3 t195 true)) = some (r1, r2) := H
 have A5 := Aside0.mk A50
 clear A50
 have HC6 := Aside0.mk H
 clear H
 go_enter Tryd.func26, Tryd.ntmps26
 go_upto_region 2 with (first | (go_at_call 38; (with_reducible refine (impl_FreeDays.calls k _ _ l0 a1 a2 999 t195 t196 _ ?side1 ?side2 A5.out).mono ?_); (case side1 => repeat (first | exact HR0.out | (with_reducible refine Kd.C_alloc ?_ _) | (with_reducible refine Kd.C_drewN ?_ _) | (with_reducible refine Kd.C_drew ?_))); (case side2 => exact HC0.out); rintro e w7 ⟨v197, rfl, ho0, hb⟩; have HO198 := Aside0.mk (Kd.S_lower ho0 (below_size (bW HB))); replace HB := uB HB hb; (try clear hb); (try clear ho0)))
 repeat (go_quiet (first | (go_at_call 38; (with_reducible refine (impl_FreeDays.calls k _ _ l0 a1 a2 999 t195 t196 _ ?side1 ?side2 A5.out).mono ?_); (case side1 => repeat (first | exact HR0.out | (with_reducible refine Kd.C_alloc ?_ _) | (with_reducible refine Kd.C_drewN ?_ _) | (with_reducible refine Kd.C_drew ?_))); (case side2 => exact HC0.out); rintro e w7 ⟨v197, rfl, ho0, hb⟩; have HO198 := Aside0.mk (Kd.S_lower ho0 (below_size (bW HB))); replace HB := uB HB hb; (try clear hb); (try clear ho0))); go_upto_region 2 with (first | (go_at_call 38; (with_reducible refine (impl_FreeDays.calls k _ _ l0 a1 a2 999 t195 t196 _ ?side1 ?side2 A5.out).mono ?_); (case side1 => repeat (first | exact HR0.out | (with_reducible refine Kd.C_alloc ?_ _) | (with_reducible refine Kd.C_drewN ?_ _) | (with_reducible refine Kd.C_drew ?_))); (case side2 => exact HC0.out); rintro e w7 ⟨v197, rfl, ho0, hb⟩; have HO198 := Aside0.mk (Kd.S_lower ho0 (below_size (bW HB))); replace HB := uB HB hb; (try clear hb); (try clear ho0))))
 (try simp only [Act.put, List.setIfInBounds_toArray, List.set_cons_zero, List.set_cons_succ])
 go_cut [27] (fun v27 wc => ∃ (kq : Nat) (x27_5 : Bool), v27 = .bool x27_5 ∧ Aside0 (impl_FirstSlot.j0 kq a3 t195 x27_5 = some (r1, r2)) ∧ Aside0 (kq ≤ k) ∧ Aside0 (Kd.S (Kd.slice 3 (Kd.int .i64)) 68 wc w.heap.size (fun _ => True) v197 t195) ∧ Aside0 (Below w.heap.size w wc))
 case first =>
  have H := HC6.out
  clear HC6
  rcases Bool.eq_false_or_eq_true t196 with rfl | rfl
  ·replace H := iT rfl H
   replace H := bA H
   obtain ⟨t199, A9, H⟩ := H
   have H' := Aside0.mk H
   clear H
   go_wp2_with (first | (go_at_call 57; (with_reducible refine (impl_within.calls a3 1 100 t199 _ A9.out).mono ?_); rintro e w' ⟨rfl, ⟨nd, rfl⟩⟩; (try first | exact ⟨rfl, _, World.drewN_drewN _ _ _⟩ | exact ⟨rfl, _, Eq.trans (World.drewN_drewN _ _ _) (congrArg (World.drewN _) (Nat.add_assoc _ _ _))⟩)))
   repeat (go_quiet (first | (go_at_call 57; (with_reducible refine (impl_within.calls a3 1 100 t199 _ A9.out).mono ?_); rintro e w' ⟨rfl, ⟨nd, rfl⟩⟩; (try first | exact ⟨rfl, _, World.drewN_drewN _ _ _⟩ | exact ⟨rfl, _, Eq.trans (World.drewN_drewN _ _ _) (congrArg (World.drewN _) (Nat.add_assoc _ _ _))⟩))); try go_wp2_with (first | (go_at_call 57; (with_reducible refine (impl_within.calls a3 1 100 t199 _ A9.out).mono ?_); rintro e w' ⟨rfl, ⟨nd, rfl⟩⟩; (try first | exact ⟨rfl, _, World.drewN_drewN _ _ _⟩ | exact ⟨rfl, _, Eq.trans (World.drewN_drewN _ _ _) (congrArg (World.drewN _) (Nat.add_assoc _ _ _))⟩))))
   go_meet
   case rel => exact ⟨_, (!t199), rB, H', leB, ⟨by (with_reducible repeat (first | apply Kd.S_alloc | apply Kd.S_drewN | apply Kd.S_drew)); exact HO198.out⟩, (aB HB)⟩
  ·replace H := iF (by decide) H
   have H' := Aside0.mk H
   clear H
   go_wp2
   repeat (go_quiet (fail); try go_wp2)
   go_meet
   case rel => exact ⟨_, (true), rB, H', leB, ⟨by (with_reducible repeat (first | apply Kd.S_alloc | apply Kd.S_drewN | apply Kd.S_drew)); exact HO198.out⟩, (aB HB)⟩
 case rest =>
  clear HC6
  obtain ⟨kq, x27_5, rfl, HA, HJ5, HO_10, HB⟩ := hcut
  cases kq with
  | zero => exact absurd HA.out (by simp [impl_FirstSlot.j0])
  | succ kj5 =>
   have H := HA.out
   clear HA
   simp only [impl_FirstSlot.j0] at H
   rcases Bool.eq_false_or_eq_true x27_5 with rfl | rfl
   ·replace H := iT rfl H
    simp only [Option.some.injEq, Prod.mk.injEq] at H
    obtain ⟨rfl, rfl⟩ := H
    go_wp2
    repeat (go_quiet (fail); try go_wp2)
    go_ret2
    exact ⟨eB, (bW HB)⟩
   ·replace H := iF (by decide) H
    have H' := Aside0.mk H
    clear H
    obtain ⟨Ao11, co11, eo11⟩ := Kd.S_slice HO_10.out
    subst eo11
    go_wp2
    repeat (go_quiet (fail); try go_wp2)
    go_loopg [30] kj5 (fun kq v30 w' => ∃ (x30_2 : Int), v30 = .int .i64 x30_2 ∧ Aside0 (impl_FirstSlot.l0 kq a3 t195 (t195.length : Int) x30_2 = some (r1, r2)) ∧ Aside0 (kq ≤ kj5) ∧ Aside0 (Kd.S (Kd.slice 3 (Kd.int .i64)) 68 w' w.heap.size (fun _ => True) (.slice Ao11 t195.length co11) t195) ∧ Aside0 (Below w.heap.size w w'))
    case atStart => exact ⟨(0), rB, H', ⟨Nat.le_refl _⟩, ⟨by (with_reducible repeat (first | apply Kd.S_alloc | apply Kd.S_drewN | apply Kd.S_drew)); exact HO_10.out⟩, (aB HB)⟩
    case round =>
     clear H'
     obtain ⟨x30_2, rfl, HA, HK2, HO_28, HB⟩ := hrel
     cases gk with
     | zero => exact absurd HA.out (by simp [impl_FirstSlot.l0])
     | succ k2 =>
      have H := HA.out
      clear HA
      simp only [impl_FirstSlot.l0] at H
      replace H := ifD H
      rcases H with ⟨H, -, c12b0⟩ | ⟨H, -, c12b0⟩
      ·by_cases c13 : 0 ≤ x30_2
       ·rw [if_pos c13] at H
        have c13b0 : decide (0 ≤ x30_2) = true := decide_eq_true c13
        clear c13
        by_cases c14 : x30_2 < (t195.length : Int)
        ·rw [if_pos c14] at H
         have c14b0 : decide (x30_2 < (t195.length : Int)) = true := decide_eq_true c14
         clear c14
         by_cases c15 : 1 < ((rd_L5 t195 x30_2).length : Int)
         ·rw [if_pos c15] at H
          have c15b0 : decide (1 < ((rd_L5 t195 x30_2).length : Int)) = true := decide_eq_true c15
          have c15b1 : decide (1 < (rd_L5 t195 x30_2).length) = true := decide_eq_true (by omega)
          clear c15
          by_cases c16 : 0 < ((rd_L5 t195 x30_2).length : Int)
          ·rw [if_pos c16] at H
           have c16b0 : decide (0 < ((rd_L5 t195 x30_2).length : Int)) = true := decide_eq_true c16
           have c16b1 : decide (0 < (rd_L5 t195 x30_2).length) = true := decide_eq_true (by omega)
           clear c16
           replace H := ifD H
           rcases H with ⟨H, -, c17b0⟩ | ⟨H, -, c17b0⟩
           ·simp only [Option.some.injEq, Prod.mk.injEq] at H
            obtain ⟨rfl, rfl⟩ := H
            have p200 : 0 ≤ (x30_2 : Int) := of_decide_eq_true asmB
            have q200 : x30_2 < (t195.length : Int) := of_decide_eq_true asmB
            obtain ⟨ad200, A200_0, c200_0, e200, hx200_0, hl200_0, hi200_0⟩ := at_L5 (Kd.S_reads' HO_28.out).2.2 x30_2 p200 q200
            cases e200
            obtain ⟨ce200, hce200, hMe200, hcc200⟩ := Kd.S_get HO_28.out [] x30_2 p200 (by first | exact q200 | exact of_decide_eq_true asmB | (have e_ := (Kd.S_reads' HO_28.out).1; omega))
            obtain ⟨ve200_0, rfl, ge200_0⟩ := hMe200
            have hv200_0 := hcc200 0 _ rfl
            rw [Nat.add_zero, show ((Kd.slice 3 (Kd.int .i64))).sz = 1 from rfl, Nat.mul_one] at hv200_0
            replace hv200_0 := Option.some.inj (hv200_0.symm.trans hx200_0)
            rw [hv200_0] at ge200_0
            have HL200_0 := Aside0.mk (show Kd.R (Kd.int .i64) 3 _ _ _ _ (rd_L5 t195 x30_2) from ge200_0)
            clear hv200_0 ge200_0
            clear hcc200 hce200
            have HR200_0 := Aside0.mk hi200_0
            have HC200_0 := Aside0.mk hl200_0
            clear hi200_0 hl200_0
            replace p200 := eq_true p200
            replace q200 := eq_true q200
            have p201 : 0 ≤ (1 : Int) := (by omega)
            have q201 : 1 < ((rd_L5 t195 x30_2).length : Int) := of_decide_eq_true asmB
            obtain ⟨ad201, e201, hx201_0⟩ := Kd.at_int (by repeat (first | (with_reducible exact HR200_0.out) | (with_reducible refine Kd.C_alloc ?_ _) | (with_reducible refine Kd.C_drewN ?_ _) | (with_reducible refine Kd.C_drew ?_) | exact HR200_0.out)) 1 p201 q201
            cases e201
            (try simp only [show (1 : Int).toNat = 1 from rfl, Nat.reduceMul, Nat.reduceEqDiff, Go.Addr.add, ↓reduceIte] at hx201_0)
            have qi201 : (1 < (rd_L5 t195 x30_2).length) = True := eq_true (by omega)
            (try rw [show ((1 : Int)).toNat = 1 from rfl] at hx201_0)
            replace p201 := eq_true p201
            replace q201 := eq_true q201
            have p202 : 0 ≤ (0 : Int) := (by omega)
            have q202 : 0 < ((rd_L5 t195 x30_2).length : Int) := of_decide_eq_true asmB
            obtain ⟨ad202, e202, hx202_0⟩ := Kd.at_int (by repeat (first | (with_reducible exact HR200_0.out) | (with_reducible refine Kd.C_alloc ?_ _) | (with_reducible refine Kd.C_drewN ?_ _) | (with_reducible refine Kd.C_drew ?_) | exact HR200_0.out)) 0 p202 q202
            obtain rfl : ad201 = ad202 := (by injection e202)
            have qi202 : (0 < (rd_L5 t195 x30_2).length) = True := eq_true (by omega)
            (try rw [show ((0 : Int)).toNat = 0 from rfl] at hx202_0)
            (try rw [Addr.add_zero'] at hx202_0)
            replace p202 := eq_true p202
            replace q202 := eq_true q202
            have p203 : 0 ≤ (0 : Int) := (by omega)
            have q203 : 0 < ((rd_L5 t195 x30_2).length : Int) := of_decide_eq_true asmB
            obtain ⟨ad203, e203, hx203_0⟩ := Kd.at_int (by repeat (first | (with_reducible exact HR200_0.out) | (with_reducible refine Kd.C_alloc ?_ _) | (with_reducible refine Kd.C_drewN ?_ _) | (with_reducible refine Kd.C_drew ?_) | exact HR200_0.out)) 0 p203 q203
            obtain rfl : ad201 = ad203 := (by injection e203)
            have qi203 : (0 < (rd_L5 t195 x30_2).length) = True := eq_true (by omega)
            (try rw [show ((0 : Int)).toNat = 0 from rfl] at hx203_0)
            (try rw [Addr.add_zero'] at hx203_0)
            replace p203 := eq_true p203
            replace q203 := eq_true q203
            go_wp2
            repeat (go_quiet (fail); try go_wp2)
            go_ret2
            exact ⟨eB, (bW HB)⟩
           ·have H' := Aside0.mk H
            clear H
            have p200 : 0 ≤ (x30_2 : Int) := of_decide_eq_true asmB
            have q200 : x30_2 < (t195.length : Int) := of_decide_eq_true asmB
            obtain ⟨ad200, A200_0, c200_0, e200, hx200_0, hl200_0, hi200_0⟩ := at_L5 (Kd.S_reads' HO_28.out).2.2 x30_2 p200 q200
            cases e200
            obtain ⟨ce200, hce200, hMe200, hcc200⟩ := Kd.S_get HO_28.out [] x30_2 p200 (by first | exact q200 | exact of_decide_eq_true asmB | (have e_ := (Kd.S_reads' HO_28.out).1; omega))
            obtain ⟨ve200_0, rfl, ge200_0⟩ := hMe200
            have hv200_0 := hcc200 0 _ rfl
            rw [Nat.add_zero, show ((Kd.slice 3 (Kd.int .i64))).sz = 1 from rfl, Nat.mul_one] at hv200_0
            replace hv200_0 := Option.some.inj (hv200_0.symm.trans hx200_0)
            rw [hv200_0] at ge200_0
            have HL200_0 := Aside0.mk (show Kd.R (Kd.int .i64) 3 _ _ _ _ (rd_L5 t195 x30_2) from ge200_0)
            clear hv200_0 ge200_0
            clear hcc200 hce200
            have HR200_0 := Aside0.mk hi200_0
            have HC200_0 := Aside0.mk hl200_0
            clear hi200_0 hl200_0
            replace p200 := eq_true p200
            replace q200 := eq_true q200
            have p201 : 0 ≤ (1 : Int) := (by omega)
            have q201 : 1 < ((rd_L5 t195 x30_2).length : Int) := of_decide_eq_true asmB
            obtain ⟨ad201, e201, hx201_0⟩ := Kd.at_int (by repeat (first | (with_reducible exact HR200_0.out) | (with_reducible refine Kd.C_alloc ?_ _) | (with_reducible refine Kd.C_drewN ?_ _) | (with_reducible refine Kd.C_drew ?_) | exact HR200_0.out)) 1 p201 q201
            cases e201
            (try simp only [show (1 : Int).toNat = 1 from rfl, Nat.reduceMul, Nat.reduceEqDiff, Go.Addr.add, ↓reduceIte] at hx201_0)
            have qi201 : (1 < (rd_L5 t195 x30_2).length) = True := eq_true (by omega)
            (try rw [show ((1 : Int)).toNat = 1 from rfl] at hx201_0)
            replace p201 := eq_true p201
            replace q201 := eq_true q201
            have p202 : 0 ≤ (0 : Int) := (by omega)
            have q202 : 0 < ((rd_L5 t195 x30_2).length : Int) := of_decide_eq_true asmB
            obtain ⟨ad202, e202, hx202_0⟩ := Kd.at_int (by repeat (first | (with_reducible exact HR200_0.out) | (with_reducible refine Kd.C_alloc ?_ _) | (with_reducible refine Kd.C_drewN ?_ _) | (with_reducible refine Kd.C_drew ?_) | exact HR200_0.out)) 0 p202 q202
            obtain rfl : ad201 = ad202 := (by injection e202)
            have qi202 : (0 < (rd_L5 t195 x30_2).length) = True := eq_true (by omega)
            (try rw [show ((0 : Int)).toNat = 0 from rfl] at hx202_0)
            (try rw [Addr.add_zero'] at hx202_0)
            replace p202 := eq_true p202
            replace q202 := eq_true q202
            go_wp2
            repeat (go_quiet (fail); try go_wp2)
            go_roundg k2
            case measure => have := HJ5.out; have := HK2.out; omega
            case rel => exact ⟨(wrap64 (x30_2 + 1)), rB, H', ⟨by have := HJ5.out; have := HK2.out; omega⟩, ⟨by (with_reducible repeat (first | apply Kd.S_alloc | apply Kd.S_drewN | apply Kd.S_drew)); exact HO_28.out⟩, (aB HB)⟩
          ·rw [if_neg c16] at H
           exact absurd H (by simp)
         ·rw [if_neg c15] at H
          exact absurd H (by simp)
        ·rw [if_neg c14] at H
         exact absurd H (by simp)
       ·rw [if_neg c13] at H
        exact absurd H (by simp)
      ·simp only [Option.some.injEq, Prod.mk.injEq] at H
       obtain ⟨rfl, rfl⟩ := H
       go_wp2
       repeat (go_quiet (fail); try go_wp2)
       go_ret2
       exact ⟨eB, (bW HB)⟩

/-! ### spec_AskPermit: function 27 -/
def spec_AskPermit.j0 : Nat → List (S26) → ByteArray → Int → Int → Int → Int → Option ((List (S26)) × Int × Bool)
 | 0, _, _, _, _, _, _ => none
 | k + 1, x0, x1, x2, x3, x4, x13 => (some (([] : List (S26)) : List (S26))).bind fun y205 => (if y205.length + x0.length < 2513169434916 then ((some (y205 ++ x0 : List (S26))).bind fun y208 => (if y208.length < 2513169434916 then ((some (y208 ++ [(⟨x13, x1, x2, x3, x4, 0⟩ : S26)] : List (S26))).bind fun y211 => ((spec_l22Good.f k x0).bind fun t214 => (if t214 = true then ((spec_l22Good.f k y211).bind fun t215 => (if t215 = true then (some (y211, x13, true)) else (some ((([] : List (S26))), 0, false)))) else (some ((([] : List (S26))), 0, false))))) else (none))) else (none))
def spec_AskPermit.f (k : Nat) (l0 : List (S26)) (a1 : ByteArray) (a2 a3 a4 : Int) : Option ((List (S26)) × Int × Bool) := if (l0.length : Int) > 0 then (if 0 ≤ (wrap64 ((l0.length : Int) - 1)) then (if (wrap64 ((l0.length : Int) - 1)) < (l0.length : Int) then (spec_AskPermit.j0 k l0 a1 a2 a3 a4 (wrap64 (((rd_T26 l0 (wrap64 ((l0.length : Int) - 1))).f0) + 1))) else (none)) else (none)) else (spec_AskPermit.j0 k l0 a1 a2 a3 a4 1)
theorem spec_AskPermit.mono_l : ∀ k, (∀ y0 y1 y2 y3 y4 y5, LeO (spec_AskPermit.j0 k y0 y1 y2 y3 y4 y5) (spec_AskPermit.j0 (k + 1) y0 y1 y2 y3 y4 y5))
 | 0 => fun _ _ _ _ _ _ r h => by simp [spec_AskPermit.j0] at h
 | k + 1 => by
  have ih0 := spec_AskPermit.mono_l k
  ·intro y0 y1 y2 y3 y4 y5
   unfold spec_AskPermit.j0
   repeat' with_reducible first | apply ih0 | apply spec_l22Good.mono | exact LeO.refl _ | exact LeO.none _ | refine LeO.ite ?_ ?_ | refine LeO.bind ?_ (fun _ => ?_)
theorem spec_AskPermit.mono : ∀ a0 a1 a2 a3 a4 k, LeO (spec_AskPermit.f k a0 a1 a2 a3 a4) (spec_AskPermit.f (k + 1) a0 a1 a2 a3 a4) := by
 intro a0 a1 a2 a3 a4 k
 have ih0 := spec_AskPermit.mono_l k
 unfold spec_AskPermit.f
 repeat' with_reducible first | apply ih0 | apply spec_l22Good.mono | exact LeO.refl _ | exact LeO.none _ | refine LeO.ite ?_ ?_ | refine LeO.bind ?_ (fun _ => ?_)
set_option maxHeartbeats 8000000 in
set_option maxRecDepth 100000 in
theorem spec_AskPermit.calls (k : Nat) (A0 : Option Addr) (c0 : Nat) (l0 : List (S26)) (a1 : ByteArray) (a2 a3 a4 : Int) (r1 : List (S26)) (r2 : Int) (r3 : Bool) (w : World) (hr0 : Kd.C k26 w A0 l0.length l0) (hc0 : l0.length ≤ c0) (h : spec_AskPermit.f k l0 a1 a2 a3 a4 = some (r1, r2, r3)) :
  Calls Tryd.prog 27 #[.slice A0 l0.length c0, .string a1, .int .i64 a2, .int .i64 a3, .int .i64 a4] w fun e w' => ∃ v0_ : Value, e = .returned (.tuple #[v0_, .int .i64 r2, .bool r3]) ∧ Kd.R k26 26 w' w.heap.size (fun _ => True) v0_ r1 ∧ Below w.heap.size w w' := by
 have hu26 := Tryd.underlying26
 have HR0 := Aside0.mk hr0
 have HC0 := Aside0.mk hc0
 clear hr0 hc0
 have HB := Aside0.mk (Below.refl w.heap.size w)
 have H := h
 clear h
 unfold spec_AskPermit.f at H
 have HC6 := Aside0.mk H
 clear H
 go_enter Tryd.func27, Tryd.ntmps27
 go_upto_if 19 with (fail)
 go_cut [13] (fun v13 wc => ∃ (kq : Nat) (x13_5 : Int), v13 = .int .i64 x13_5 ∧ Aside0 (spec_AskPermit.j0 kq l0 a1 a2 a3 a4 x13_5 = some (r1, r2, r3)) ∧ Aside0 (kq ≤ k) ∧ Aside0 (Below w.heap.size w wc))
 case first =>
  have H := HC6.out
  clear HC6
  replace H := ifD H
  rcases H with ⟨H, c7, c7b0⟩ | ⟨H, c7, c7b0⟩
  ·have c7b1 : decide (0 < l0.length) = true := decide_eq_true (by omega)
   clear c7
   (first | rw [c7b0] | rw [c7b1] | (simp only [i64_w, i32_w]; rw [c7b0]) | skip)
   obtain ⟨ji8, hji8⟩ : ∃ j_ : Int, (wrap64 ((l0.length : Int) - 1)) = j_ := ⟨_, rfl⟩
   replace H : (if 0 ≤ (ji8) then (if (ji8) < (l0.length : Int) then (spec_AskPermit.j0 k l0 a1 a2 a3 a4 (wrap64 (((rd_T26 l0 (ji8)).f0) + 1))) else (none)) else (none)) = some (r1, r2, r3) := by first | (rw [hji8] at H; exact H) | (simp only [hji8] at H ⊢; exact H)
   have hji8w : (IntKind.i64.wrap ((l0.length : Int) - 1)) = ji8 := (i64_w _).trans hji8
   by_cases c9 : 0 ≤ (ji8)
   ·rw [if_pos c9] at H
    have c9b0 : decide (0 ≤ (ji8)) = true := decide_eq_true c9
    clear c9
    by_cases c10 : (ji8) < (l0.length : Int)
    ·rw [if_pos c10] at H
     have c10b0 : decide ((ji8) < (l0.length : Int)) = true := decide_eq_true c10
     clear c10
     have H' := Aside0.mk H
     clear H
     have p204 : 0 ≤ ((ji8) : Int) := of_decide_eq_true asmB
     have q204 : (ji8) < (l0.length : Int) := of_decide_eq_true asmB
     obtain ⟨ad204, e204, hx204_0, hx204_1, hx204_2, hx204_3, hx204_4, hx204_5⟩ := at_T26 HR0.out (ji8) p204 q204
     cases e204
     replace hx204_0 := bx HB.out hx204_0
     replace hx204_1 := bx HB.out hx204_1
     replace hx204_2 := bx HB.out hx204_2
     replace hx204_3 := bx HB.out hx204_3
     replace hx204_4 := bx HB.out hx204_4
     replace hx204_5 := bx HB.out hx204_5
     replace p204 := eq_true p204
     replace q204 := eq_true q204
     go_wp2
     go_meet
     case rel => exact ⟨_, (wrap64 (((rd_T26 l0 (ji8)).f0) + 1)), (by first | rfl | (simp; done) | (simp only [← hji8] <;> (first | rfl | simp)) | (simp [*]; done)), H', leB, (aB HB)⟩
    ·rw [if_neg c10] at H
     exact absurd H (by simp)
   ·rw [if_neg c9] at H
    exact absurd H (by simp)
  ·have c7b1 : decide (0 < l0.length) = false := decide_eq_false (by omega)
   clear c7
   (first | rw [c7b0] | rw [c7b1] | (simp only [i64_w, i32_w]; rw [c7b0]) | skip)
   have H' := Aside0.mk H
   clear H
   go_wp2
   go_meet
   case rel => exact ⟨_, (1), rB, H', leB, (aB HB)⟩
 case rest =>
  clear HC6
  obtain ⟨kq, x13_5, rfl, HA, HJ5, HB⟩ := hcut
  cases kq with
  | zero => exact absurd HA.out (by simp [spec_AskPermit.j0])
  | succ kj5 =>
   have H := HA.out
   clear HA
   simp only [spec_AskPermit.j0] at H
   obtain ⟨y205, hy205⟩ : ∃ y_ : List (S26), y_ = (([] : List (S26))) := ⟨_, rfl⟩
   replace H : (if y205.length + l0.length < 2513169434916 then ((some (y205 ++ l0 : List (S26))).bind fun y208 => (if y208.length < 2513169434916 then ((some (y208 ++ [(⟨x13_5, a1, a2, a3, a4, 0⟩ : S26)] : List (S26))).bind fun y211 => ((spec_l22Good.f kj5 l0).bind fun t214 => (if t214 = true then ((spec_l22Good.f kj5 y211).bind fun t215 => (if t215 = true then (some (y211, x13_5, true)) else (some ((([] : List (S26))), 0, false)))) else (some ((([] : List (S26))), 0, false))))) else (none))) else (none)) = some (r1, r2, r3) := by first | (rw [hy205]; with_reducible exact H) | (have H2_ := (Option.bind_some _ _).symm.trans H; rw [hy205]; with_reducible exact H2_) | (have H2_ := (Option.bind_some _ _).symm.trans H; with_reducible exact H2_) | with_reducible exact H | (rw [hy205]; exact H) | exact H
   have Ny205 := Aside0.mk hy205
   clear hy205
   by_cases c11 : y205.length + l0.length < 2513169434916
   ·rw [if_pos c11] at H
    have LMc11 := Aside0.mk c11
    clear c11
    obtain ⟨y208, hy208⟩ : ∃ y_ : List (S26), y_ = (y205 ++ l0) := ⟨_, rfl⟩
    replace H : (if y208.length < 2513169434916 then ((some (y208 ++ [(⟨x13_5, a1, a2, a3, a4, 0⟩ : S26)] : List (S26))).bind fun y211 => ((spec_l22Good.f kj5 l0).bind fun t214 => (if t214 = true then ((spec_l22Good.f kj5 y211).bind fun t215 => (if t215 = true then (some (y211, x13_5, true)) else (some ((([] : List (S26))), 0, false)))) else (some ((([] : List (S26))), 0, false))))) else (none)) = some (r1, r2, r3) := by first | (rw [hy208]; with_reducible exact H) | (have H2_ := (Option.bind_some _ _).symm.trans H; rw [hy208]; with_reducible exact H2_) | (have H2_ := (Option.bind_some _ _).symm.trans H; with_reducible exact H2_) | with_reducible exact H | (rw [hy208]; exact H) | exact H
    have Ny208 := Aside0.mk hy208
    clear hy208
    by_cases c12 : y208.length < 2513169434916
    ·rw [if_pos c12] at H
     have LMc12 := Aside0.mk c12
     clear c12
     obtain ⟨y211, hy211⟩ : ∃ y_ : List (S26), y_ = (y208 ++ [(⟨x13_5, a1, a2, a3, a4, 0⟩ : S26)]) := ⟨_, rfl⟩
     replace H : ((spec_l22Good.f kj5 l0).bind fun t214 => (if t214 = true then ((spec_l22Good.f kj5 y211).bind fun t215 => (if t215 = true then (some (y211, x13_5, true)) else (some ((([] : List (S26))), 0, false)))) else (some ((([] : List (S26))), 0, false)))) = some (r1, r2, r3) := by first | (rw [hy211]; with_reducible exact H) | (have H2_ := (Option.bind_some _ _).symm.trans H; rw [hy211]; with_reducible exact H2_) | (have H2_ := (Option.bind_some _ _).symm.trans H; with_reducible exact H2_) | with_reducible exact H | (rw [hy211]; exact H) | exact H
     have Ny211 := Aside0.mk hy211
     clear hy211
     replace H := bA H
     obtain ⟨t214, A13, H⟩ := H
     rcases Bool.eq_false_or_eq_true t214 with rfl | rfl
     ·replace H := iT rfl H
      replace H := bA H
      obtain ⟨t215, A15, H⟩ := H
      rcases Bool.eq_false_or_eq_true t215 with rfl | rfl
      ·replace H := iT rfl H
       simp only [Option.some.injEq, Prod.mk.injEq] at H
       obtain ⟨rfl, rfl, rfl⟩ := H
       go_wp2_with (first | ((with_reducible refine gate_dst (N := 27) rfl ?_); refine Kd.R_lit k26 _ 26 ?hg (N := 27) ?hd (xs := ([] : List (S26))) (inner := []) (ok := fun _ => True) (okp := fun _ => True) ?hr ?hp (fun _ hk => hk) trivial (Below.refl _ _) (Nat.le_refl _) (by simp) ?_; (case hd => rfl); (case hg => rfl); (case hr => first | (go_simp; done) | (go_simp; rfl)); (case hp => exact (Reps.none _ _)); intro v206 w17 ho18 hb hg_ hnew_; clear hg_ hnew_; (first | rw [← Ny205.out] at ho18 | (simp only [Int.reduceToNat] at ho18; rw [← Ny205.out] at ho18)); have HO207 := Aside0.mk (Kd.R_lower ho18 (below_size (bW HB))); replace HB := uB HB hb; clear hb ho18) | ((with_reducible refine gate_builtin (b := .append) (xs := #[.tmp 27, .tmp 28]) rfl ?_); at_builtin; refine Kd.R_append_rows k26 (w0 := w) w.heap.size rfl (.tmp 27) (.tmp 28) 32 26 (.agg #[(.int .i64 0), (.string ⟨#[]⟩), (.int .i64 0), (.int .i64 0), (.int .i64 0), (.int .i64 0)]) 56 rfl Tryd.underlying32 info26 rfl (by decide) (by omega) v206 y205 l0 _ _ _ (fun _ => True) (fun _ => False) rfl rfl ?aO ?aR (fun _ _ h => h) (fun _ h => h.elim) ?aF ?aB ?aS ?aL ?_; (case aR => repeat (first | exact (Kd.C_below HR0.out HB.out) | (with_reducible refine Kd.C_alloc ?_ _) | (with_reducible refine Kd.C_drewN ?_ _) | (with_reducible refine Kd.C_drew ?_))); (case aB => exact (bW HB)); (case aF => exact (fun _ _ => trivial)); (case aO => exact (upR HO207.out)); (case aS => exact (below_size (bW HB))); (case aL => have := LMc11.out; omega); intro v209 w19 ho hb hg hat; rw [← Ny208.out] at ho; have HO210 := Aside0.mk (ho); replace HB := Aside0.mk (hb); clear HO207; clear ho hb hg hat) | ((with_reducible refine gate_builtin (b := .append) (xs := #[.tmp 29, .tmp 36]) rfl ?_); at_builtin; refine Kd.R_append k26 (w0 := w) w.heap.size rfl (.tmp 29) (.tmp 36) 32 26 (.agg #[(.int .i64 0), (.string ⟨#[]⟩), (.int .i64 0), (.int .i64 0), (.int .i64 0), (.int .i64 0)]) 56 rfl Tryd.underlying32 info26 rfl (by decide) (by omega) v209 y208 (⟨x13_5, a1, a2, a3, a4, 0⟩ : S26) [.int .i64 x13_5, .string a1, .int .i64 a2, .int .i64 a3, .int .i64 a4, .int .i64 0] (fun _ => True) (fun _ => False) rfl rfl ?aP (fun _ hk => hk.elim) ?aF ?aO ?aB ?aS ?aL ?_; (case aP => exact k26_mkM _ _ _ (⟨x13_5, a1, a2, a3, a4, 0⟩ : S26)); (case aB => exact (bW HB)); (case aF => exact (fun _ _ => trivial)); (case aO => exact (upR HO210.out)); (case aS => exact (below_size (bW HB))); (case aL => have := LMc12.out; omega); intro v212 w20 ho hb hg hat; rw [← Ny211.out] at ho; have HO213 := Aside0.mk (ho); replace HB := Aside0.mk (hb); clear HO210; clear ho hb hg hat) | ((with_reducible refine gC 58 ?_); refine lA (some 39) Tryd.func58 (spec_l22Good.calls kj5 _ _ l0 true _ ?side1 ?side2 A13.out) ?_; (case side1 => repeat (first | exact (Kd.C_below HR0.out HB.out) | (with_reducible refine Kd.C_alloc ?_ _) | (with_reducible refine Kd.C_drewN ?_ _) | (with_reducible refine Kd.C_drew ?_))); (case side2 => exact HC0.out); intro w21 hb; replace HO213 := uR HO213 hb; replace HB := uB HB hb; (try clear hb); (try clear hk); obtain ⟨Ao22, co22, eo22⟩ := Kd.R_slice HO213.out; subst eo22) | (go_at_call 58; (with_reducible refine (spec_l22Good.calls kj5 _ _ y211 true _ ?side1 ?side2 A15.out).mono ?_); (case side1 => repeat (first | exact (Kd.R_reads' HO213.out).2.2 | (with_reducible refine Kd.C_alloc ?_ _) | (with_reducible refine Kd.C_drewN ?_ _) | (with_reducible refine Kd.C_drew ?_))); (case side2 => exact (Kd.R_reads' HO213.out).2.1); rintro e w23 ⟨rfl, hb⟩; replace HO213 := uR HO213 hb; replace HB := uB HB hb; (try clear hb); (try clear hk)))
       go_ret3
       exact ⟨_, eB, upR HO213.out, (bW HB)⟩
      ·replace H := iF (by decide) H
       obtain ⟨y216, hy216⟩ : ∃ y_ : List (S26), y_ = (([] : List (S26))) := ⟨_, rfl⟩
       replace H : (some (y216, 0, false)) = some (r1, r2, r3) := by first | (rw [hy216]; with_reducible exact H) | (have H2_ := (Option.bind_some _ _).symm.trans H; rw [hy216]; with_reducible exact H2_) | (have H2_ := (Option.bind_some _ _).symm.trans H; with_reducible exact H2_) | with_reducible exact H | (rw [hy216]; exact H) | exact H
       have Ny216 := Aside0.mk hy216
       clear hy216
       simp only [Option.some.injEq, Prod.mk.injEq] at H
       obtain ⟨rfl, rfl, rfl⟩ := H
       go_wp2_with (first | ((with_reducible refine gate_dst (N := 27) rfl ?_); refine Kd.R_lit k26 _ 26 ?hg (N := 27) ?hd (xs := ([] : List (S26))) (inner := []) (ok := fun _ => True) (okp := fun _ => True) ?hr ?hp (fun _ hk => hk) trivial (Below.refl _ _) (Nat.le_refl _) (by simp) ?_; (case hd => rfl); (case hg => rfl); (case hr => first | (go_simp; done) | (go_simp; rfl)); (case hp => exact (Reps.none _ _)); intro v206 w24 ho25 hb hg_ hnew_; clear hg_ hnew_; (first | rw [← Ny205.out] at ho25 | (simp only [Int.reduceToNat] at ho25; rw [← Ny205.out] at ho25)); have HO207 := Aside0.mk (Kd.R_lower ho25 (below_size (bW HB))); replace HB := uB HB hb; clear hb ho25) | ((with_reducible refine gate_builtin (b := .append) (xs := #[.tmp 27, .tmp 28]) rfl ?_); at_builtin; refine Kd.R_append_rows k26 (w0 := w) w.heap.size rfl (.tmp 27) (.tmp 28) 32 26 (.agg #[(.int .i64 0), (.string ⟨#[]⟩), (.int .i64 0), (.int .i64 0), (.int .i64 0), (.int .i64 0)]) 56 rfl Tryd.underlying32 info26 rfl (by decide) (by omega) v206 y205 l0 _ _ _ (fun _ => True) (fun _ => False) rfl rfl ?aO ?aR (fun _ _ h => h) (fun _ h => h.elim) ?aF ?aB ?aS ?aL ?_; (case aR => repeat (first | exact (Kd.C_below HR0.out HB.out) | (with_reducible refine Kd.C_alloc ?_ _) | (with_reducible refine Kd.C_drewN ?_ _) | (with_reducible refine Kd.C_drew ?_))); (case aB => exact (bW HB)); (case aF => exact (fun _ _ => trivial)); (case aO => exact (upR HO207.out)); (case aS => exact (below_size (bW HB))); (case aL => have := LMc11.out; omega); intro v209 w26 ho hb hg hat; rw [← Ny208.out] at ho; have HO210 := Aside0.mk (ho); replace HB := Aside0.mk (hb); clear HO207; clear ho hb hg hat) | ((with_reducible refine gate_builtin (b := .append) (xs := #[.tmp 29, .tmp 36]) rfl ?_); at_builtin; refine Kd.R_append k26 (w0 := w) w.heap.size rfl (.tmp 29) (.tmp 36) 32 26 (.agg #[(.int .i64 0), (.string ⟨#[]⟩), (.int .i64 0), (.int .i64 0), (.int .i64 0), (.int .i64 0)]) 56 rfl Tryd.underlying32 info26 rfl (by decide) (by omega) v209 y208 (⟨x13_5, a1, a2, a3, a4, 0⟩ : S26) [.int .i64 x13_5, .string a1, .int .i64 a2, .int .i64 a3, .int .i64 a4, .int .i64 0] (fun _ => True) (fun _ => False) rfl rfl ?aP (fun _ hk => hk.elim) ?aF ?aO ?aB ?aS ?aL ?_; (case aP => exact k26_mkM _ _ _ (⟨x13_5, a1, a2, a3, a4, 0⟩ : S26)); (case aB => exact (bW HB)); (case aF => exact (fun _ _ => trivial)); (case aO => exact (upR HO210.out)); (case aS => exact (below_size (bW HB))); (case aL => have := LMc12.out; omega); intro v212 w27 ho hb hg hat; rw [← Ny211.out] at ho; have HO213 := Aside0.mk (ho); replace HB := Aside0.mk (hb); clear HO210; clear ho hb hg hat) | ((with_reducible refine gC 58 ?_); refine lA (some 39) Tryd.func58 (spec_l22Good.calls kj5 _ _ l0 true _ ?side1 ?side2 A13.out) ?_; (case side1 => repeat (first | exact (Kd.C_below HR0.out HB.out) | (with_reducible refine Kd.C_alloc ?_ _) | (with_reducible refine Kd.C_drewN ?_ _) | (with_reducible refine Kd.C_drew ?_))); (case side2 => exact HC0.out); intro w28 hb; replace HO213 := uR HO213 hb; replace HB := uB HB hb; (try clear hb); (try clear hk); obtain ⟨Ao29, co29, eo29⟩ := Kd.R_slice HO213.out; subst eo29) | (go_at_call 58; (with_reducible refine (spec_l22Good.calls kj5 _ _ y211 false _ ?side1 ?side2 A15.out).mono ?_); (case side1 => repeat (first | exact (Kd.R_reads' HO213.out).2.2 | (with_reducible refine Kd.C_alloc ?_ _) | (with_reducible refine Kd.C_drewN ?_ _) | (with_reducible refine Kd.C_drew ?_))); (case side2 => exact (Kd.R_reads' HO213.out).2.1); rintro e w30 ⟨rfl, hb⟩; replace HO213 := uR HO213 hb; replace HB := uB HB hb; (try clear hb); (try clear hk)) | ((with_reducible refine gate_dst (N := 46) rfl ?_); refine Kd.R_lit k26 _ 26 ?hg (N := 46) ?hd (xs := ([] : List (S26))) (inner := []) (ok := fun _ => True) (okp := fun _ => True) ?hr ?hp (fun _ hk => hk) trivial (Below.refl _ _) (Nat.le_refl _) (by simp) ?_; (case hd => rfl); (case hg => rfl); (case hr => first | (go_simp; done) | (go_simp; rfl)); (case hp => exact (Reps.none _ _)); intro v217 w31 ho32 hb hg_ hnew_; clear hg_ hnew_; (first | rw [← Ny216.out] at ho32 | (simp only [Int.reduceToNat] at ho32; rw [← Ny216.out] at ho32)); have HO218 := Aside0.mk (Kd.R_lower (Kd.R_new' ho32 (Kd.R_lt (upR HO213.out))) (below_size (bW HB))); replace HO213 := Aside0.mk (Kd.R_elder' (upR HO213.out) (Kd.R_base ho32) hb); replace HB := uB HB hb; clear hb ho32))
       go_ret3
       exact ⟨_, eB, by (with_reducible repeat (first | apply Kd.R_alloc | apply Kd.R_drewN | apply Kd.R_drew)); exact Kd.R_mono HO218.out (fun _ hk => trivial), (bW HB)⟩
     ·replace H := iF (by decide) H
      obtain ⟨y219, hy219⟩ : ∃ y_ : List (S26), y_ = (([] : List (S26))) := ⟨_, rfl⟩
      replace H : (some (y219, 0, false)) = some (r1, r2, r3) := by first | (rw [hy219]; with_reducible exact H) | (have H2_ := (Option.bind_some _ _).symm.trans H; rw [hy219]; with_reducible exact H2_) | (have H2_ := (Option.bind_some _ _).symm.trans H; with_reducible exact H2_) | with_reducible exact H | (rw [hy219]; exact H) | exact H
      have Ny219 := Aside0.mk hy219
      clear hy219
      simp only [Option.some.injEq, Prod.mk.injEq] at H
      obtain ⟨rfl, rfl, rfl⟩ := H
      go_wp2_with (first | ((with_reducible refine gate_dst (N := 27) rfl ?_); refine Kd.R_lit k26 _ 26 ?hg (N := 27) ?hd (xs := ([] : List (S26))) (inner := []) (ok := fun _ => True) (okp := fun _ => True) ?hr ?hp (fun _ hk => hk) trivial (Below.refl _ _) (Nat.le_refl _) (by simp) ?_; (case hd => rfl); (case hg => rfl); (case hr => first | (go_simp; done) | (go_simp; rfl)); (case hp => exact (Reps.none _ _)); intro v206 w33 ho34 hb hg_ hnew_; clear hg_ hnew_; (first | rw [← Ny205.out] at ho34 | (simp only [Int.reduceToNat] at ho34; rw [← Ny205.out] at ho34)); have HO207 := Aside0.mk (Kd.R_lower ho34 (below_size (bW HB))); replace HB := uB HB hb; clear hb ho34) | ((with_reducible refine gate_builtin (b := .append) (xs := #[.tmp 27, .tmp 28]) rfl ?_); at_builtin; refine Kd.R_append_rows k26 (w0 := w) w.heap.size rfl (.tmp 27) (.tmp 28) 32 26 (.agg #[(.int .i64 0), (.string ⟨#[]⟩), (.int .i64 0), (.int .i64 0), (.int .i64 0), (.int .i64 0)]) 56 rfl Tryd.underlying32 info26 rfl (by decide) (by omega) v206 y205 l0 _ _ _ (fun _ => True) (fun _ => False) rfl rfl ?aO ?aR (fun _ _ h => h) (fun _ h => h.elim) ?aF ?aB ?aS ?aL ?_; (case aR => repeat (first | exact (Kd.C_below HR0.out HB.out) | (with_reducible refine Kd.C_alloc ?_ _) | (with_reducible refine Kd.C_drewN ?_ _) | (with_reducible refine Kd.C_drew ?_))); (case aB => exact (bW HB)); (case aF => exact (fun _ _ => trivial)); (case aO => exact (upR HO207.out)); (case aS => exact (below_size (bW HB))); (case aL => have := LMc11.out; omega); intro v209 w35 ho hb hg hat; rw [← Ny208.out] at ho; have HO210 := Aside0.mk (ho); replace HB := Aside0.mk (hb); clear HO207; clear ho hb hg hat) | ((with_reducible refine gate_builtin (b := .append) (xs := #[.tmp 29, .tmp 36]) rfl ?_); at_builtin; refine Kd.R_append k26 (w0 := w) w.heap.size rfl (.tmp 29) (.tmp 36) 32 26 (.agg #[(.int .i64 0), (.string ⟨#[]⟩), (.int .i64 0), (.int .i64 0), (.int .i64 0), (.int .i64 0)]) 56 rfl Tryd.underlying32 info26 rfl (by decide) (by omega) v209 y208 (⟨x13_5, a1, a2, a3, a4, 0⟩ : S26) [.int .i64 x13_5, .string a1, .int .i64 a2, .int .i64 a3, .int .i64 a4, .int .i64 0] (fun _ => True) (fun _ => False) rfl rfl ?aP (fun _ hk => hk.elim) ?aF ?aO ?aB ?aS ?aL ?_; (case aP => exact k26_mkM _ _ _ (⟨x13_5, a1, a2, a3, a4, 0⟩ : S26)); (case aB => exact (bW HB)); (case aF => exact (fun _ _ => trivial)); (case aO => exact (upR HO210.out)); (case aS => exact (below_size (bW HB))); (case aL => have := LMc12.out; omega); intro v212 w36 ho hb hg hat; rw [← Ny211.out] at ho; have HO213 := Aside0.mk (ho); replace HB := Aside0.mk (hb); clear HO210; clear ho hb hg hat) | ((with_reducible refine gC 58 ?_); refine lA (some 39) Tryd.func58 (spec_l22Good.calls kj5 _ _ l0 false _ ?side1 ?side2 A13.out) ?_; (case side1 => repeat (first | exact (Kd.C_below HR0.out HB.out) | (with_reducible refine Kd.C_alloc ?_ _) | (with_reducible refine Kd.C_drewN ?_ _) | (with_reducible refine Kd.C_drew ?_))); (case side2 => exact HC0.out); intro w37 hb; replace HO213 := uR HO213 hb; replace HB := uB HB hb; (try clear hb); (try clear hk)) | ((with_reducible refine gate_dst (N := 46) rfl ?_); refine Kd.R_lit k26 _ 26 ?hg (N := 46) ?hd (xs := ([] : List (S26))) (inner := []) (ok := fun _ => True) (okp := fun _ => True) ?hr ?hp (fun _ hk => hk) trivial (Below.refl _ _) (Nat.le_refl _) (by simp) ?_; (case hd => rfl); (case hg => rfl); (case hr => first | (go_simp; done) | (go_simp; rfl)); (case hp => exact (Reps.none _ _)); intro v220 w38 ho39 hb hg_ hnew_; clear hg_ hnew_; (first | rw [← Ny219.out] at ho39 | (simp only [Int.reduceToNat] at ho39; rw [← Ny219.out] at ho39)); have HO221 := Aside0.mk (Kd.R_lower (Kd.R_new' ho39 (Kd.R_lt (upR HO213.out))) (below_size (bW HB))); replace HO213 := Aside0.mk (Kd.R_elder' (upR HO213.out) (Kd.R_base ho39) hb); replace HB := uB HB hb; clear hb ho39))
      go_ret3
      exact ⟨_, eB, by (with_reducible repeat (first | apply Kd.R_alloc | apply Kd.R_drewN | apply Kd.R_drew)); exact Kd.R_mono HO221.out (fun _ hk => trivial), (bW HB)⟩
    ·rw [if_neg c12] at H
     exact absurd H (by simp)
   ·rw [if_neg c11] at H
    exact absurd H (by simp)

/-! ### impl_Permit_68: function 68 -/
def impl_Permit_68.f (l0 : List (S26)) : Option (List (S26)) := if l0.length * 56 ≤ 140737488351232 then some l0 else none
theorem infoC26 : (Tryd.prog.info? 26).map (fun i => (i.zero, i.size, i.bytes)) = some (some (.agg #[(.int .i64 0), (.string ByteArray.empty), (.int .i64 0), (.int .i64 0), (.int .i64 0), (.int .i64 0)]), 6, 56) := by kernel_rfl
set_option maxHeartbeats 4000000 in
set_option maxRecDepth 100000 in
theorem impl_Permit_68.calls (A0 : Option Addr) (c0 : Nat) (l0 : List (S26)) (r : List (S26)) (w : World) (hr0 : Kd.C k26 w A0 l0.length l0) (hc0 : l0.length ≤ c0) (h : impl_Permit_68.f l0 = some r) :
  Calls Tryd.prog 68 #[.slice A0 l0.length c0] w fun e w' => ∃ v0_ : Value, e = .returned (v0_) ∧ Kd.R k26 26 w' w.heap.size (fun _ => True) v0_ r ∧ Below w.heap.size w w' := by
 have q22 : ∀ (w : World) (a : Option Addr) (n c n' c' : Nat), (binOp .eql 32 (.slice a n c) (.slice none n' c')).run Tryd.prog w = .ok (.bool a.isNone) w := fun w a n c n' c' => Go.Lib.run_eql_slice_nil w _ _ a n c n' c' Tryd.underlying32
 unfold impl_Permit_68.f at h
 split at h
 ·rename_i hb
  obtain rfl := Option.some.inj h
  cases A0 with
  | none =>
   have h0 : l0 = [] := by
    rcases Nat.eq_zero_or_pos l0.length with h0 | h0
    ·exact List.eq_nil_of_length_eq_zero h0
    ·obtain ⟨ad, he, _⟩ := hr0.2.2 h0
     cases he
   subst h0
   go_enter Tryd.func68, Tryd.ntmps68
   go_wp2
   go_ret
   exact ⟨_, rfl, Kd.R_nil _ _ _ _ _, Below.refl _ _⟩
  | some ad =>
   have HR := Aside0.mk hr0
   clear hr0
   go_enter Tryd.func68, Tryd.ntmps68
   go_wp2_with (first | ((with_reducible refine gate_dst (N := 5) rfl ?_); refine Kd.R_lit k26 _ 26 ?hg (N := 5) ?hd (xs := ([] : List (S26))) (inner := []) (ok := fun _ => True) (okp := fun _ => True) ?hr ?hp (fun _ hk => hk) trivial (Below.refl _ _) (Nat.le_refl _) (by simp) ?_; (case hd => rfl); (case hg => rfl); (case hr => first | (go_simp; done) | (go_simp; rfl)); (case hp => exact (Reps.none _ _)); intro v1 w1 ho hb1 _ _; have HO := Aside0.mk ho; have HB := Aside0.mk hb1; clear ho hb1) | ((with_reducible refine gate_builtin (b := .append) (xs := #[.tmp 5, .tmp 6]) rfl ?_); at_builtin; refine Kd.R_append_rows k26 (w0 := w) w.heap.size rfl (.tmp 5) (.tmp 6) 32 26 (.agg #[(.int .i64 0), (.string ByteArray.empty), (.int .i64 0), (.int .i64 0), (.int .i64 0), (.int .i64 0)]) 56 rfl Tryd.underlying32 infoC26 rfl (by decide) (by omega) _ ([] : List (S26)) l0 _ _ _ (fun _ => True) (fun _ => False) rfl rfl ?aO ?aR (fun _ _ h => h) (fun _ h => h.elim) ?aF ?aB ?aS ?aL ?_; (case aO => exact HO.out); (case aR => exact Kd.C_below HR.out HB.out); (case aF => exact fun _ _ => trivial); (case aB => exact HB.out); (case aS => exact below_size HB.out); (case aL => simp only [List.length_nil]; omega); intro v2 w2 ho2 hb2 _ _; have HO2 := Aside0.mk ho2; have HB2 := Aside0.mk hb2; clear ho2 hb2))
   go_ret
   refine ⟨_, rfl, ?_, HB2.out⟩
   have := HO2.out
   rwa [List.nil_append] at this
 ·cases h


/-! ### impl_AskPermit: function 28 -/
def impl_AskPermit.j0 : Nat → List (S26) → ByteArray → Int → Int → Int → Int → Option ((List (S26)) × Int × Bool)
 | 0, _, _, _, _, _, _ => none
 | k + 1, x0, x1, x2, x3, x4, x13 => (impl_Permit_68.f x0).bind fun t224 => (if t224.length < 2513169434916 then ((some (t224 ++ [(⟨x13, x1, x2, x3, x4, 0⟩ : S26)] : List (S26))).bind fun y227 => ((impl_ArePermits.f k y227).bind fun t230 => (if t230 = true then (some (y227, x13, true)) else (some (([] : List (S26)), 0, false))))) else (none))
def impl_AskPermit.f (k : Nat) (l0 : List (S26)) (a1 : ByteArray) (a2 a3 a4 : Int) : Option ((List (S26)) × Int × Bool) := (impl_ArePermits.f k l0).bind fun t222 => (if t222 = true then (if (l0.length : Int) > 0 then (if 0 ≤ (wrap64 ((l0.length : Int) - 1)) then (if (wrap64 ((l0.length : Int) - 1)) < (l0.length : Int) then (impl_AskPermit.j0 k l0 a1 a2 a3 a4 (wrap64 (((rd_T26 l0 (wrap64 ((l0.length : Int) - 1))).f0) + 1))) else (none)) else (none)) else (impl_AskPermit.j0 k l0 a1 a2 a3 a4 1)) else (some (([] : List (S26)), 0, false)))
theorem impl_AskPermit.mono_l : ∀ k, (∀ y0 y1 y2 y3 y4 y5, LeO (impl_AskPermit.j0 k y0 y1 y2 y3 y4 y5) (impl_AskPermit.j0 (k + 1) y0 y1 y2 y3 y4 y5))
 | 0 => fun _ _ _ _ _ _ r h => by simp [impl_AskPermit.j0] at h
 | k + 1 => by
  have ih0 := impl_AskPermit.mono_l k
  ·intro y0 y1 y2 y3 y4 y5
   unfold impl_AskPermit.j0
   repeat' with_reducible first | apply ih0 | apply impl_ArePermits.mono | exact LeO.refl _ | exact LeO.none _ | refine LeO.ite ?_ ?_ | refine LeO.bind ?_ (fun _ => ?_)
theorem impl_AskPermit.mono : ∀ a0 a1 a2 a3 a4 k, LeO (impl_AskPermit.f k a0 a1 a2 a3 a4) (impl_AskPermit.f (k + 1) a0 a1 a2 a3 a4) := by
 intro a0 a1 a2 a3 a4 k
 have ih0 := impl_AskPermit.mono_l k
 unfold impl_AskPermit.f
 repeat' with_reducible first | apply ih0 | apply impl_ArePermits.mono | exact LeO.refl _ | exact LeO.none _ | refine LeO.ite ?_ ?_ | refine LeO.bind ?_ (fun _ => ?_)
set_option maxHeartbeats 8000000 in
set_option maxRecDepth 100000 in
theorem impl_AskPermit.calls (k : Nat) (A0 : Option Addr) (c0 : Nat) (l0 : List (S26)) (a1 : ByteArray) (a2 a3 a4 : Int) (r1 : List (S26)) (r2 : Int) (r3 : Bool) (w : World) (hr0 : Kd.C k26 w A0 l0.length l0) (hc0 : l0.length ≤ c0) (h : impl_AskPermit.f k l0 a1 a2 a3 a4 = some (r1, r2, r3)) :
  Calls Tryd.prog 28 #[.slice A0 l0.length c0, .string a1, .int .i64 a2, .int .i64 a3, .int .i64 a4] w fun e w' => ∃ v0_ : Value, e = .returned (.tuple #[v0_, .int .i64 r2, .bool r3]) ∧ Kd.R k26 26 w' w.heap.size (fun _ => True) v0_ r1 ∧ Below w.heap.size w w' := by
 have hu26 := Tryd.underlying26
 have HR0 := Aside0.mk hr0
 have HC0 := Aside0.mk hc0
 clear hr0 hc0
 have HB := Aside0.mk (Below.refl w.heap.size w)
 have H := h
 clear h
 unfold impl_AskPermit.f at H
 replace H := bA H
 obtain ⟨t222, A6, H⟩ := H
 rcases Bool.eq_false_or_eq_true t222 with rfl | rfl
 ·replace H := iT rfl H
  have HC8 := Aside0.mk H
  clear H
  go_enter Tryd.func28, Tryd.ntmps28
  go_upto_if 20 with (first | ((with_reducible refine gC 21 ?_); refine lA (some 16) Tryd.func21 (impl_ArePermits.calls k _ _ l0 true _ ?side1 ?side2 A6.out) ?_; (case side1 => repeat (first | exact HR0.out | (with_reducible refine Kd.C_alloc ?_ _) | (with_reducible refine Kd.C_drewN ?_ _) | (with_reducible refine Kd.C_drew ?_))); (case side2 => exact HC0.out); intro w9 hb; replace HB := uB HB hb; (try clear hb); (try clear hk)))
  (try simp only [Act.put, List.setIfInBounds_toArray, List.set_cons_zero, List.set_cons_succ])
  go_cut [13] (fun v13 wc => ∃ (kq : Nat) (x13_7 : Int), v13 = .int .i64 x13_7 ∧ Aside0 (impl_AskPermit.j0 kq l0 a1 a2 a3 a4 x13_7 = some (r1, r2, r3)) ∧ Aside0 (kq ≤ k) ∧ Aside0 (Below w.heap.size w wc))
  case first =>
   have H := HC8.out
   clear HC8
   replace H := ifD H
   rcases H with ⟨H, c10, c10b0⟩ | ⟨H, c10, c10b0⟩
   ·have c10b1 : decide (0 < l0.length) = true := decide_eq_true (by omega)
    clear c10
    (first | rw [c10b0] | rw [c10b1] | (simp only [i64_w, i32_w]; rw [c10b0]) | skip)
    obtain ⟨ji11, hji11⟩ : ∃ j_ : Int, (wrap64 ((l0.length : Int) - 1)) = j_ := ⟨_, rfl⟩
    replace H : (if 0 ≤ (ji11) then (if (ji11) < (l0.length : Int) then (impl_AskPermit.j0 k l0 a1 a2 a3 a4 (wrap64 (((rd_T26 l0 (ji11)).f0) + 1))) else (none)) else (none)) = some (r1, r2, r3) := by first | (rw [hji11] at H; exact H) | (simp only [hji11] at H ⊢; exact H)
    have hji11w : (IntKind.i64.wrap ((l0.length : Int) - 1)) = ji11 := (i64_w _).trans hji11
    by_cases c12 : 0 ≤ (ji11)
    ·rw [if_pos c12] at H
     have c12b0 : decide (0 ≤ (ji11)) = true := decide_eq_true c12
     clear c12
     by_cases c13 : (ji11) < (l0.length : Int)
     ·rw [if_pos c13] at H
      have c13b0 : decide ((ji11) < (l0.length : Int)) = true := decide_eq_true c13
      clear c13
      have H' := Aside0.mk H
      clear H
      have p223 : 0 ≤ ((ji11) : Int) := of_decide_eq_true asmB
      have q223 : (ji11) < (l0.length : Int) := of_decide_eq_true asmB
      obtain ⟨ad223, e223, hx223_0, hx223_1, hx223_2, hx223_3, hx223_4, hx223_5⟩ := at_T26 HR0.out (ji11) p223 q223
      cases e223
      replace hx223_0 := bx HB.out hx223_0
      replace hx223_1 := bx HB.out hx223_1
      replace hx223_2 := bx HB.out hx223_2
      replace hx223_3 := bx HB.out hx223_3
      replace hx223_4 := bx HB.out hx223_4
      replace hx223_5 := bx HB.out hx223_5
      replace p223 := eq_true p223
      replace q223 := eq_true q223
      go_wp2
      go_meet
      case rel => exact ⟨_, (wrap64 (((rd_T26 l0 (ji11)).f0) + 1)), (by first | rfl | (simp; done) | (simp only [← hji11] <;> (first | rfl | simp)) | (simp [*]; done)), H', leB, (aB HB)⟩
     ·rw [if_neg c13] at H
      exact absurd H (by simp)
    ·rw [if_neg c12] at H
     exact absurd H (by simp)
   ·have c10b1 : decide (0 < l0.length) = false := decide_eq_false (by omega)
    clear c10
    (first | rw [c10b0] | rw [c10b1] | (simp only [i64_w, i32_w]; rw [c10b0]) | skip)
    have H' := Aside0.mk H
    clear H
    go_wp2
    go_meet
    case rel => exact ⟨_, (1), rB, H', leB, (aB HB)⟩
  case rest =>
   clear HC8
   obtain ⟨kq, x13_7, rfl, HA, HJ7, HB⟩ := hcut
   cases kq with
   | zero => exact absurd HA.out (by simp [impl_AskPermit.j0])
   | succ kj7 =>
    have H := HA.out
    clear HA
    simp only [impl_AskPermit.j0] at H
    replace H := bA H
    obtain ⟨t224, A14, H⟩ := H
    by_cases c15 : t224.length < 2513169434916
    ·rw [if_pos c15] at H
     have LMc15 := Aside0.mk c15
     clear c15
     obtain ⟨y227, hy227⟩ : ∃ y_ : List (S26), y_ = (t224 ++ [(⟨x13_7, a1, a2, a3, a4, 0⟩ : S26)]) := ⟨_, rfl⟩
     replace H : ((impl_ArePermits.f kj7 y227).bind fun t230 => (if t230 = true then (some (y227, x13_7, true)) else (some (([] : List (S26)), 0, false)))) = some (r1, r2, r3) := by first | (rw [hy227]; with_reducible exact H) | (have H2_ := (Option.bind_some _ _).symm.trans H; rw [hy227]; with_reducible exact H2_) | (have H2_ := (Option.bind_some _ _).symm.trans H; with_reducible exact H2_) | with_reducible exact H | (rw [hy227]; exact H) | exact H
     have Ny227 := Aside0.mk hy227
     clear hy227
     replace H := bA H
     obtain ⟨t230, A16, H⟩ := H
     rcases Bool.eq_false_or_eq_true t230 with rfl | rfl
     ·replace H := iT rfl H
      simp only [Option.some.injEq, Prod.mk.injEq] at H
      obtain ⟨rfl, rfl, rfl⟩ := H
      go_wp2_with (first | ((with_reducible refine gate_callee (f := 68) rfl ?_); refine goesL_ (some 30) rfl rfl Tryd.func68 (by kernel_rfl) rfl #[.slice A0 l0.length c0] rfl argsB ?_; (with_reducible refine (impl_Permit_68.calls _ _ l0 t224 _ ?side1 ?side2 A14.out).mono ?_); (case side1 => repeat (first | exact (Kd.C_below HR0.out HB.out) | (with_reducible refine Kd.C_alloc ?_ _) | (with_reducible refine Kd.C_drewN ?_ _) | (with_reducible refine Kd.C_drew ?_))); (case side2 => exact HC0.out); rintro e w18 ⟨v225, rfl, ho0, hb⟩; refine ⟨_, rfl, ?_⟩; have HO226 := Aside0.mk (Kd.R_lower ho0 (below_size (bW HB))); replace HB := uB HB hb; (try clear hb); (try clear hk); (try clear ho0)) | ((with_reducible refine gate_builtin (b := .append) (xs := #[.tmp 30, .tmp 37]) rfl ?_); at_builtin; refine Kd.R_append k26 (w0 := w) w.heap.size rfl (.tmp 30) (.tmp 37) 32 26 (.agg #[(.int .i64 0), (.string ⟨#[]⟩), (.int .i64 0), (.int .i64 0), (.int .i64 0), (.int .i64 0)]) 56 rfl Tryd.underlying32 info26 rfl (by decide) (by omega) v225 t224 (⟨x13_7, a1, a2, a3, a4, 0⟩ : S26) [.int .i64 x13_7, .string a1, .int .i64 a2, .int .i64 a3, .int .i64 a4, .int .i64 0] (fun _ => True) (fun _ => False) rfl rfl ?aP (fun _ hk => hk.elim) ?aF ?aO ?aB ?aS ?aL ?_; (case aP => exact k26_mkM _ _ _ (⟨x13_7, a1, a2, a3, a4, 0⟩ : S26)); (case aB => exact (bW HB)); (case aF => exact (fun _ _ => trivial)); (case aO => exact (upR HO226.out)); (case aS => exact (below_size (bW HB))); (case aL => have := LMc15.out; omega); intro v228 w19 ho hb hg hat; rw [← Ny227.out] at ho; have HO229 := Aside0.mk (ho); replace HB := Aside0.mk (hb); clear HO226; clear ho hb hg hat; obtain ⟨Ao20, co20, eo20⟩ := Kd.R_slice HO229.out; subst eo20) | ((with_reducible refine gC 21 ?_); refine lA (some 40) Tryd.func21 (impl_ArePermits.calls kj7 _ _ y227 true _ ?side1 ?side2 A16.out) ?_; (case side1 => repeat (first | exact (Kd.R_reads' HO229.out).2.2 | (with_reducible refine Kd.C_alloc ?_ _) | (with_reducible refine Kd.C_drewN ?_ _) | (with_reducible refine Kd.C_drew ?_))); (case side2 => exact (Kd.R_reads' HO229.out).2.1); intro w21 hb; replace HO229 := uR HO229 hb; replace HB := uB HB hb; (try clear hb); (try clear hk)))
      go_ret3
      exact ⟨_, eB, upR HO229.out, (bW HB)⟩
     ·replace H := iF (by decide) H
      simp only [Option.some.injEq, Prod.mk.injEq] at H
      obtain ⟨rfl, rfl, rfl⟩ := H
      go_wp2_with (first | ((with_reducible refine gate_callee (f := 68) rfl ?_); refine goesL_ (some 30) rfl rfl Tryd.func68 (by kernel_rfl) rfl #[.slice A0 l0.length c0] rfl argsB ?_; (with_reducible refine (impl_Permit_68.calls _ _ l0 t224 _ ?side1 ?side2 A14.out).mono ?_); (case side1 => repeat (first | exact (Kd.C_below HR0.out HB.out) | (with_reducible refine Kd.C_alloc ?_ _) | (with_reducible refine Kd.C_drewN ?_ _) | (with_reducible refine Kd.C_drew ?_))); (case side2 => exact HC0.out); rintro e w22 ⟨v225, rfl, ho0, hb⟩; refine ⟨_, rfl, ?_⟩; have HO226 := Aside0.mk (Kd.R_lower ho0 (below_size (bW HB))); replace HB := uB HB hb; (try clear hb); (try clear hk); (try clear ho0)) | ((with_reducible refine gate_builtin (b := .append) (xs := #[.tmp 30, .tmp 37]) rfl ?_); at_builtin; refine Kd.R_append k26 (w0 := w) w.heap.size rfl (.tmp 30) (.tmp 37) 32 26 (.agg #[(.int .i64 0), (.string ⟨#[]⟩), (.int .i64 0), (.int .i64 0), (.int .i64 0), (.int .i64 0)]) 56 rfl Tryd.underlying32 info26 rfl (by decide) (by omega) v225 t224 (⟨x13_7, a1, a2, a3, a4, 0⟩ : S26) [.int .i64 x13_7, .string a1, .int .i64 a2, .int .i64 a3, .int .i64 a4, .int .i64 0] (fun _ => True) (fun _ => False) rfl rfl ?aP (fun _ hk => hk.elim) ?aF ?aO ?aB ?aS ?aL ?_; (case aP => exact k26_mkM _ _ _ (⟨x13_7, a1, a2, a3, a4, 0⟩ : S26)); (case aB => exact (bW HB)); (case aF => exact (fun _ _ => trivial)); (case aO => exact (upR HO226.out)); (case aS => exact (below_size (bW HB))); (case aL => have := LMc15.out; omega); intro v228 w23 ho hb hg hat; rw [← Ny227.out] at ho; have HO229 := Aside0.mk (ho); replace HB := Aside0.mk (hb); clear HO226; clear ho hb hg hat; obtain ⟨Ao24, co24, eo24⟩ := Kd.R_slice HO229.out; subst eo24) | ((with_reducible refine gC 21 ?_); refine lA (some 40) Tryd.func21 (impl_ArePermits.calls kj7 _ _ y227 false _ ?side1 ?side2 A16.out) ?_; (case side1 => repeat (first | exact (Kd.R_reads' HO229.out).2.2 | (with_reducible refine Kd.C_alloc ?_ _) | (with_reducible refine Kd.C_drewN ?_ _) | (with_reducible refine Kd.C_drew ?_))); (case side2 => exact (Kd.R_reads' HO229.out).2.1); intro w25 hb; replace HO229 := uR HO229 hb; replace HB := uB HB hb; (try clear hb); (try clear hk)))
      go_ret3
      exact ⟨_, eB, by first | exact Kd.R_nil _ _ _ _ _ | exact Kd.N_nil _ _ _ _ _ | exact Kd.V_nil _ _ _ _ _ | exact Kd.Q_nil _ _ _ _ _ | exact Kd.S_nil _ _ _ _ _, (bW HB)⟩
    ·rw [if_neg c15] at H
     exact absurd H (by simp)
 ·replace H := iF (by decide) H
  simp only [Option.some.injEq, Prod.mk.injEq] at H
  obtain ⟨rfl, rfl, rfl⟩ := H
  go_enter Tryd.func28, Tryd.ntmps28
  go_wp2_with (first | ((with_reducible refine gC 21 ?_); refine lA (some 16) Tryd.func21 (impl_ArePermits.calls k _ _ l0 false _ ?side1 ?side2 A6.out) ?_; (case side1 => repeat (first | exact HR0.out | (with_reducible refine Kd.C_alloc ?_ _) | (with_reducible refine Kd.C_drewN ?_ _) | (with_reducible refine Kd.C_drew ?_))); (case side2 => exact HC0.out); intro w26 hb; replace HB := uB HB hb; (try clear hb); (try clear hk)))
  go_ret3
  exact ⟨_, eB, by first | exact Kd.R_nil _ _ _ _ _ | exact Kd.N_nil _ _ _ _ _ | exact Kd.V_nil _ _ _ _ _ | exact Kd.Q_nil _ _ _ _ _ | exact Kd.S_nil _ _ _ _ _, (bW HB)⟩

/-! ### impl_xPermitId: function 143 -/
set_option maxHeartbeats 4000000 in
set_option maxRecDepth 100000 in
theorem IndexFunc_permitId (p : S26 → Bool) (V : Value) (A0 : Option Addr) (c0 : Nat) (l0 : List (S26)) (w : World) (hr0 : Kd.C k26 w A0 l0.length l0) (hc0 : l0.length ≤ c0)
  (hp : ∀ (x : S26) (W : World), x ∈ l0 → Below w.heap.size w W → Calls Tryd.prog 94 #[.agg #[.int .i64 x.f0, .string x.f1, .int .i64 x.f2, .int .i64 x.f3, .int .i64 x.f4, .int .i64 x.f5], V] W fun e W' => e = .returned (.bool (p x)) ∧ Below W.heap.size W W') :
  Calls Tryd.prog 92 #[.slice A0 l0.length c0, .func (.func 94) #[] #[V]] w fun e w' => e = .returned (.int .i64 (idxP26 p l0 0)) ∧ Below w.heap.size w w' := by
 have hu := Tryd.underlying26
 have hm := hr0.2.1
 go_enter Tryd.func92, Tryd.ntmps92
 go_wp2
 go_loopw [8] (fun v wr => ∃ i : Nat, i ≤ l0.length ∧ v = .int .i64 i ∧ idxP26 p l0 0 = idxP26 p (l0.drop i) i ∧ Below w.heap.size w wr) (fun v _ => l0.length - (intOf v).toNat)
 case atStart => exact ⟨0, by omega, rfl, by simp, Below.refl _ _⟩
 case round =>
  obtain ⟨i, hi, rfl, he, hb⟩ := hrel
  by_cases hlt : i < l0.length
  ·obtain ⟨ad, rfl, h0, h1, h2, h3, h4, h5⟩ := at_T26 (Kd.C_below hr0 hb) (i : Int) (by omega) (by omega)
   have hx : rd_T26 l0 (i : Int) = l0.getD i z26 := by unfold rd_T26; rw [Int.toNat_natCast]
   have hmem := getD_mem' l0 i z26 hlt
   rw [hx] at h0 h1 h2 h3 h4 h5
   rw [getD_drop' l0 i z26 hlt] at he
   generalize l0.getD i z26 = x at h0 h1 h2 h3 h4 h5 he hx hmem
   clear hx
   rw [Int.toNat_natCast] at h0 h1 h2 h3 h4 h5
   cases hpx : p x with
   | true =>
    have hq := hp x wr hmem hb
    rw [hpx] at hq
    have he' := Aside0.mk he
    have hb' := Aside0.mk hb
    have hpx' := Aside0.mk hpx
    clear he hb hp hpx hmem
    go_wp2_with (go_at_call 94; refine hq.mono ?_; rintro e w1 ⟨rfl, hb1⟩)
    go_ret
    refine ⟨?_, hb'.out.trans (hb1.mono hb'.out.size)⟩
    rw [he'.out, idxP26, if_pos hpx'.out]
    rfl
   | false =>
    have hq := hp x wr hmem hb
    rw [hpx] at hq
    have he' := Aside0.mk he
    have hb' := Aside0.mk hb
    have hpx' := Aside0.mk hpx
    have hp' := Aside0.mk hp
    clear he hb hp hpx hmem
    go_wp2_with (go_at_call 94; refine hq.mono ?_; rintro e w1 ⟨rfl, hb1⟩)
    go_roundw
    case rel => exact ⟨i + 1, by omega, by go_num, by rw [he'.out, idxP26, hpx'.out]; rfl, hb'.out.trans (hb1.mono hb'.out.size)⟩
    case measure => simp [intOf]; omega
  ·have hd : l0.drop i = [] := List.drop_eq_nil_of_le (by omega)
   rw [hd] at he
   have he' := Aside0.mk he
   have hb' := Aside0.mk hb
   clear he hb hp hd
   go_wp2
   go_ret
   exact ⟨by rw [he'.out, idxP26]; rfl, hb'.out⟩

theorem permitIdClosure (x : S26) (q : Int) (b : Nat) (W : World) (h : W.cell? ⟨b, 0, none⟩ = some (.int .i64 q)) :
  Calls Tryd.prog 94 #[.agg #[.int .i64 x.f0, .string x.f1, .int .i64 x.f2, .int .i64 x.f3, .int .i64 x.f4, .int .i64 x.f5], .pointer (some ⟨b, 0, none⟩)] W fun e W' => e = .returned (.bool (x.f0 == q)) ∧ Below W.heap.size W W' := by
 have hu := Tryd.underlying26
 have hl := World.block_lt_of_cell? W _ h
 go_enter Tryd.func94, Tryd.ntmps94
 go_wp2
 go_ret
 exact ⟨rfl, ((Below.refl _ W).alloc (Nat.le_refl _) _)⟩
def impl_xPermitId.f (l0 : List (S26)) (a1 : Int) : Option Int := some (idxP26 (fun x => x.f0 == a1) l0 0)
theorem impl_xPermitId.calls (A0 : Option Addr) (c0 : Nat) (l0 : List (S26)) (a1 r : Int) (w : World) (hr0 : Kd.C k26 w A0 l0.length l0) (hc0 : l0.length ≤ c0) (h : impl_xPermitId.f l0 a1 = some r) {b : Nat} (hcell : w.cell? ⟨b, 0, none⟩ = some (.int .i64 a1) := by first | assumption | simp) :
  Calls Tryd.prog 92 #[.slice A0 l0.length c0, .func (.func 94) #[] #[.pointer (some ⟨b, 0, none⟩)]] w fun e w' => e = .returned (.int .i64 r) ∧ Below w.heap.size w w' := by
 obtain rfl := Option.some.inj h
 have hl := World.block_lt_of_cell? w _ hcell
 exact IndexFunc_permitId (fun x => x.f0 == a1) (.pointer (some ⟨b, 0, none⟩)) A0 c0 l0 w hr0 hc0 (fun x W _ hB => permitIdClosure x a1 b W ((hB.cell hl).trans hcell))

/-! ### impl_permitAt: function 74 -/
def impl_permitAt.f (k : Nat) (l0 : List (S26)) (a1 : Int) : Option (Int × Bool) := (impl_xPermitId.f l0 a1).bind fun t231 => (if t231 ≥ 0 then ((impl_ArePermits.f k l0).bind fun t232 => (some (t231, t232))) else (some (t231, false)))
theorem impl_permitAt.mono : ∀ a0 a1 k, LeO (impl_permitAt.f k a0 a1) (impl_permitAt.f (k + 1) a0 a1) := by
  intro a0 a1 k
  unfold impl_permitAt.f
  repeat' first
      | (with_reducible exact impl_ArePermits.mono _ _)
      | (with_reducible exact LeO.refl _)
      | (with_reducible exact LeO.none _)
      | (with_reducible refine LeO.ite ?_ ?_)
      | (with_reducible refine LeO.bind ?_ (fun _ => ?_))
      | exact impl_ArePermits.mono _ _
      | exact LeO.none _
      | refine LeO.ite ?_ ?_
      | refine LeO.bind ?_ (fun _ => ?_)
set_option maxHeartbeats 8000000 in
set_option maxRecDepth 100000 in
theorem impl_permitAt.calls (k : Nat) (A0 : Option Addr) (c0 : Nat) (l0 : List (S26)) (a1 : Int) (r1 : Int) (r2 : Bool) (w : World) (hr0 : Kd.C k26 w A0 l0.length l0) (hc0 : l0.length ≤ c0) (h : impl_permitAt.f k l0 a1 = some (r1, r2)) :
    Calls Tryd.prog 74 #[.slice A0 l0.length c0, .int .i64 a1] w fun e w' => e = .returned (.tuple #[.int .i64 r1, .bool r2]) ∧ Below w.heap.size w w' := by
  have HR0 := Aside0.mk hr0
  have HC0 := Aside0.mk hc0
  clear hr0 hc0
  have HB := Aside0.mk (Below.refl w.heap.size w)
  have H : ((impl_xPermitId.f l0 a1).bind fun t231 => (if t231 ≥ 0 then ((impl_ArePermits.f k l0).bind fun t232 => (some (t231, t232))) else (some (t231, false)))) = some (r1, r2) := h
  clear h
  replace H := Option.bind_eq_some_iff.mp H
  obtain ⟨t231, A30, H⟩ := H
  replace H : (if t231 ≥ 0 then ((impl_ArePermits.f k l0).bind fun t232 => (some (t231, t232))) else (some (t231, false))) = some (r1, r2) := H
  have A3 := Aside0.mk A30
  clear A30
  by_cases c4 : t231 ≥ 0
  · rw [if_pos c4] at H
    have c4b0 : decide (0 ≤ t231) = true := decide_eq_true c4
    clear c4
    replace H := Option.bind_eq_some_iff.mp H
    obtain ⟨t232, A50, H⟩ := H
    replace H : (some (t231, t232)) = some (r1, r2) := H
    have A5 := Aside0.mk A50
    clear A50
    simp only [Option.some.injEq, Prod.mk.injEq] at H
    obtain ⟨rfl, rfl⟩ := H
    go_enter Tryd.func74, Tryd.ntmps74
    go_wp2_with (first | ((with_reducible refine gate_callee (f := 92) rfl ?_); refine goesL_ (some 9) rfl rfl Tryd.func92 (by kernel_rfl) rfl #[.slice A0 l0.length c0, .func (.func 94) #[] #[.pointer (some ⟨w.heap.size, 0, none⟩)]] rfl argsB ?_; (with_reducible refine (impl_xPermitId.calls _ _ l0 a1 t231 _ ?side1 ?side2 A3.out).mono ?_); (case side1 => repeat (first | exact HR0.out | (with_reducible refine Kd.C_alloc ?_ _) | (with_reducible refine Kd.C_drewN ?_ _) | (with_reducible refine Kd.C_drew ?_))); (case side2 => exact HC0.out); rintro e w6 ⟨rfl, hb⟩; refine ⟨_, rfl, ?_⟩; have n0_ := Aside0.mk (below_step (upB HB.out) hb); clear HB; have HB := n0_; clear n0_; (try clear hb)) | (go_at_call 21; (with_reducible refine (impl_ArePermits.calls k _ _ l0 t232 _ ?side1 ?side2 A5.out).mono ?_); (case side1 => repeat (first | exact (Kd.C_below HR0.out HB.out) | (with_reducible refine Kd.C_alloc ?_ _) | (with_reducible refine Kd.C_drewN ?_ _) | (with_reducible refine Kd.C_drew ?_))); (case side2 => exact HC0.out); rintro e w7 ⟨rfl, hb⟩; have n0_ := Aside0.mk (below_step (upB HB.out) hb); clear HB; have HB := n0_; clear n0_; (try clear hb)))
    go_ret2
    exact ⟨by first | rfl | (simp [errW_none, errW_some] <;> rfl) | (simp [*, errW_none, errW_some] <;> rfl), (upB HB.out)⟩
  · rw [if_neg c4] at H
    have c4b0 : decide (0 ≤ t231) = false := decide_eq_false c4
    clear c4
    simp only [Option.some.injEq, Prod.mk.injEq] at H
    obtain ⟨rfl, rfl⟩ := H
    go_enter Tryd.func74, Tryd.ntmps74
    go_wp2_with (first | ((with_reducible refine gate_callee (f := 92) rfl ?_); refine goesL_ (some 9) rfl rfl Tryd.func92 (by kernel_rfl) rfl #[.slice A0 l0.length c0, .func (.func 94) #[] #[.pointer (some ⟨w.heap.size, 0, none⟩)]] rfl argsB ?_; (with_reducible refine (impl_xPermitId.calls _ _ l0 a1 t231 _ ?side1 ?side2 A3.out).mono ?_); (case side1 => repeat (first | exact HR0.out | (with_reducible refine Kd.C_alloc ?_ _) | (with_reducible refine Kd.C_drewN ?_ _) | (with_reducible refine Kd.C_drew ?_))); (case side2 => exact HC0.out); rintro e w8 ⟨rfl, hb⟩; refine ⟨_, rfl, ?_⟩; have n0_ := Aside0.mk (below_step (upB HB.out) hb); clear HB; have HB := n0_; clear n0_; (try clear hb)))
    go_ret2
    exact ⟨by first | rfl | (simp [errW_none, errW_some] <;> rfl) | (simp [*, errW_none, errW_some] <;> rfl), (upB HB.out)⟩

end Go.Proofs.YtgeioccfjgpijaaDoor.QFnPermitDays
