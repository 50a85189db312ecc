/- Contracts of Go functions that FnPermitDays reaches: the call computes what the plain function says. No condition. -/
import Derived.Test.YtgeioccfjgpijaaDoorQFnPermitDaysx0
import Derived.Test.YtgeioccfjgpijaaDoorQFnPermitDaysx2
import Derived.Test.YtgeioccfjgpijaaDoorQFnPermitDaysx4
namespace Go.Proofs.YtgeioccfjgpijaaDoor.QFnPermitDays
open Go.RowKit Go.Proofs.YtgeioccfjgpijaaDoorW.PrintWords Go.Proofs.YtgeioccfjgpijaaDoorW.PrintLast Go.Proofs.YtgeioccfjgpijaaDoorW.PrintMore
attribute [local go_sem] max2_int min2_int max_two min_two max_three min_three max_four min_four   -- for this text's walks alone
set_option linter.unusedVariables false
set_option linter.unusedSimpArgs false

/-! ### spec_l22Good: function 58 -/
mutual
def spec_l22Good.l0 : Nat → List (S26) → Int → Option (Bool)
 | 0, _, _ => none
 | k + 1, x0, x3 => if x3 < (x0.length : Int) then (if 0 ≤ x3 then ((spec_l22One.f k ((rd_T26 x0 x3).f0) ((rd_T26 x0 x3).f1) ((rd_T26 x0 x3).f2) ((rd_T26 x0 x3).f3) ((rd_T26 x0 x3).f4) ((rd_T26 x0 x3).f5)).bind fun t160 => (if t160 = true then (if x3 > 0 then (if 0 ≤ (wrap64 (x3 - 1)) then (if (wrap64 (x3 - 1)) < (x0.length : Int) then (spec_l22Good.j1 k x0 x3 (decide (((rd_T26 x0 (wrap64 (x3 - 1))).f0) ≥ ((rd_T26 x0 x3).f0)))) else (none)) else (none)) else (spec_l22Good.j1 k x0 x3 false)) else (spec_l22Good.j1 k x0 x3 true))) else (none)) else (some (decide ((x0.length : Int) ≤ 10)))
def spec_l22Good.j1 : Nat → List (S26) → Int → Bool → Option (Bool)
 | 0, _, _, _ => none
 | k + 1, x0, x3, x34 => if x34 = true then (some false) else (spec_l22Good.l1 k x0 x3 0)
def spec_l22Good.l1 : Nat → List (S26) → Int → Int → Option (Bool)
 | 0, _, _, _ => none
 | k + 1, x0, x3, x4 => if x4 < x3 then (if 0 ≤ x4 then (if x4 < (x0.length : Int) then (if 0 ≤ x3 then (if x3 < (x0.length : Int) then ((spec_l22Conflict.f ((rd_T26 x0 x4).f0) ((rd_T26 x0 x4).f1) ((rd_T26 x0 x4).f2) ((rd_T26 x0 x4).f3) ((rd_T26 x0 x4).f4) ((rd_T26 x0 x4).f5) ((rd_T26 x0 x3).f0) ((rd_T26 x0 x3).f1) ((rd_T26 x0 x3).f2) ((rd_T26 x0 x3).f3) ((rd_T26 x0 x3).f4) ((rd_T26 x0 x3).f5)).bind fun t165 => (if t165 = true then (some false) else (spec_l22Good.l1 k x0 x3 (wrap64 (x4 + 1))))) else (none)) else (none)) else (none)) else (none)) else (spec_l22Good.l0 k x0 (wrap64 (x3 + 1)))
end
def spec_l22Good.f (k : Nat) (l0 : List (S26)) : Option (Bool) := spec_l22Good.l0 k l0 0
theorem spec_l22Good.mono_l : ∀ k, (∀ y0 y1, LeO (spec_l22Good.l0 k y0 y1) (spec_l22Good.l0 (k + 1) y0 y1)) ∧ (∀ y0 y1 y2, LeO (spec_l22Good.j1 k y0 y1 y2) (spec_l22Good.j1 (k + 1) y0 y1 y2)) ∧ (∀ y0 y1 y2, LeO (spec_l22Good.l1 k y0 y1 y2) (spec_l22Good.l1 (k + 1) y0 y1 y2))
 | 0 => ⟨fun _ _ r h => by simp [spec_l22Good.l0] at h, fun _ _ _ r h => by simp [spec_l22Good.j1] at h, fun _ _ _ r h => by simp [spec_l22Good.l1] at h⟩
 | k + 1 => by
  obtain ⟨ih0, ih1, ih2⟩ := spec_l22Good.mono_l k
  refine ⟨?_, ?_, ?_⟩
  ·intro y0 y1
   unfold spec_l22Good.l0
   repeat' with_reducible first | apply ih0 | apply ih1 | apply ih2 | apply spec_l22One.mono | exact LeO.refl _ | exact LeO.none _ | refine LeO.ite ?_ ?_ | refine LeO.bind ?_ (fun _ => ?_)
  ·intro y0 y1 y2
   unfold spec_l22Good.j1
   repeat' with_reducible first | apply ih0 | apply ih1 | apply ih2 | apply spec_l22One.mono | exact LeO.refl _ | exact LeO.none _ | refine LeO.ite ?_ ?_ | refine LeO.bind ?_ (fun _ => ?_)
  ·intro y0 y1 y2
   unfold spec_l22Good.l1
   repeat' with_reducible first | apply ih0 | apply ih1 | apply ih2 | apply spec_l22One.mono | exact LeO.refl _ | exact LeO.none _ | refine LeO.ite ?_ ?_ | refine LeO.bind ?_ (fun _ => ?_)
theorem spec_l22Good.mono : ∀ a0 k, LeO (spec_l22Good.f k a0) (spec_l22Good.f (k + 1) a0) := by
 intro a0 k
 obtain ⟨ih0, ih1, ih2⟩ := spec_l22Good.mono_l k
 unfold spec_l22Good.f
 repeat' with_reducible first | apply ih0 | apply ih1 | apply ih2 | apply spec_l22One.mono | exact LeO.refl _ | exact LeO.none _ | refine LeO.ite ?_ ?_ | refine LeO.bind ?_ (fun _ => ?_)
def spec_l22Good.T4 : Bool × List (List Nat × List Nat) := (true, [([], []), ([], []), ([0, 1], [0, 1]), ([2], [2]), ([3], [3]), ([4], [4]), ([5, 4], [5]), ([6], [6]), ([7, 6], [6, 7]), ([8, 6, 6], [6, 8]), ([9], [9]), ([9], [9]), ([11, 9], [9, 11]), ([10, 12, 9], [9, 10, 12]), ([13, 9], [9, 13]), ([14, 9], [9, 14]), ([9], [9]), ([9], [9]), ([16, 17, 9], [9, 16, 17]), ([18, 9], [9, 18]), ([19, 9], [9, 19]), ([15, 20, 9], [9, 15, 20]), ([9, 21, 6], [6, 9, 21]), ([6, 22], [6, 22])])
def spec_l22Good.B4 : List Nat := [0, 0, 3, 7, 15, 31, 63, 127, 255, 511, 1023, 1023, 3071, 8191, 16383, 32767, 1023, 1023, 197631, 459775, 984063, 2097151, 4194303, 8388607]
theorem spec_l22Good.tab4 : rtab .any (opsOf Tryd.f58 4) = spec_l22Good.T4 := by kernel_rfl
theorem spec_l22Good.bits4 : waitsOk spec_l22Good.T4.2 spec_l22Good.B4 = true := by kernel_rfl
def spec_l22Good.T9 : Bool × List (List Nat × List Nat) := (true, [([], []), ([], []), ([0, 1], [0, 1]), ([2], [2]), ([], []), ([], []), ([4, 5], [4, 5]), ([6], [6]), ([3, 7], [3, 7])])
def spec_l22Good.B9 : List Nat := [0, 0, 3, 7, 0, 0, 48, 112, 255]
theorem spec_l22Good.tab9 : rtab .any (opsOf Tryd.f58 9) = spec_l22Good.T9 := by kernel_rfl
theorem spec_l22Good.bits9 : waitsOk spec_l22Good.T9.2 spec_l22Good.B9 = true := by kernel_rfl
set_option maxHeartbeats 8000000 in
set_option maxRecDepth 100000 in
theorem spec_l22Good.calls (k : Nat) (A0 : Option Addr) (c0 : Nat) (l0 : List (S26)) (r : Bool) (w : World) (hr0 : Kd.C k26 w A0 l0.length l0) (hc0 : l0.length ≤ c0) (h : spec_l22Good.f k l0 = some r) :
  Calls Tryd.prog 58 #[.slice A0 l0.length c0] w fun e w' => e = .returned (.bool r) ∧ Below w.heap.size w w' := by
 have hu26 := Tryd.underlying26
 have HR0 := Aside0.mk hr0
 have HC0 := Aside0.mk hc0
 clear hr0 hc0
 have HB := Aside0.mk (Below.refl w.heap.size w)
 have H : (spec_l22Good.l0 k l0 0) = some r := h
 clear h
 have H' := Aside0.mk H
 clear H
 go_enter Tryd.func58, Tryd.ntmps58
 go_wp2
 go_loopg [3] k (fun kq v3 w' => ∃ (x3_1 : Int), v3 = .int .i64 x3_1 ∧ Aside0 (spec_l22Good.l0 kq l0 x3_1 = some r) ∧ Aside0 (kq ≤ k) ∧ Aside0 (Below w.heap.size w w'))
 case atStart => exact ⟨(0), rB, H', ⟨Nat.le_refl _⟩, (aB HB)⟩
 case round =>
  clear H'
  obtain ⟨x3_1, rfl, HA, HK1, HB⟩ := hrel
  cases gk with
  | zero => exact absurd HA.out (by simp [spec_l22Good.l0])
  | succ k1 =>
   have H := HA.out
   clear HA
   simp only [spec_l22Good.l0] at H
   replace H := ifD H
   rcases H with ⟨H, -, c2b0⟩ | ⟨H, -, c2b0⟩
   ·have HC3 := Aside0.mk H
    clear H
    go_upto_region 4 with (fail)
    go_cut [34] (fun v34 wc => ∃ (kq : Nat) (x34_2 : Bool), v34 = .bool x34_2 ∧ Aside0 (spec_l22Good.j1 kq l0 x3_1 x34_2 = some r) ∧ Aside0 (kq ≤ k1) ∧ Aside0 (Below w.heap.size w wc))
    case first =>
     have H := HC3.out
     clear HC3
     by_cases c4 : 0 ≤ x3_1
     ·rw [if_pos c4] at H
      have c4b0 : decide (0 ≤ x3_1) = true := decide_eq_true c4
      clear c4
      (first | rw [c4b0] | (simp only [i64_w, i32_w]; rw [c4b0]) | skip)
      replace H := bA H
      obtain ⟨t160, A5, H⟩ := H
      rcases Bool.eq_false_or_eq_true t160 with rfl | rfl
      ·replace H := iT rfl H
       replace H := ifD H
       rcases H with ⟨H, -, c7b0⟩ | ⟨H, -, c7b0⟩
       ·obtain ⟨ji8, hji8⟩ : ∃ j_ : Int, (wrap64 (x3_1 - 1)) = j_ := ⟨_, rfl⟩
        replace H : (if 0 ≤ (ji8) then (if (ji8) < (l0.length : Int) then (spec_l22Good.j1 k1 l0 x3_1 (decide (((rd_T26 l0 (ji8)).f0) ≥ ((rd_T26 l0 x3_1).f0)))) else (none)) else (none)) = some r := by first | (rw [hji8] at H; exact H) | (simp only [hji8] at H ⊢; exact H)
        (try rw [hji8] at A5)
        have hji8w : (IntKind.i64.wrap (x3_1 - 1)) = ji8 := (i64_w _).trans hji8
        by_cases c9 : 0 ≤ (ji8)
        ·rw [if_pos c9] at H
         have c9b0 : decide (0 ≤ (ji8)) = true := decide_eq_true c9
         clear c9
         by_cases c10 : (ji8) < (l0.length : Int)
         ·rw [if_pos c10] at H
          have c10b0 : decide ((ji8) < (l0.length : Int)) = true := decide_eq_true c10
          clear c10
          have H' := Aside0.mk H
          clear H
          try go_wp2
          replace HB := Aside0.mk (below_drew1 HB.out)
          have p159 : 0 ≤ (x3_1 : Int) := of_decide_eq_true asmB
          have q159 : x3_1 < (l0.length : Int) := of_decide_eq_true asmB
          obtain ⟨ad159, e159, hx159_0, hx159_1, hx159_2, hx159_3, hx159_4, hx159_5⟩ := at_T26 HR0.out x3_1 p159 q159
          have hw159_5 := hx159_5
          have hw159_4 := hx159_4
          have hw159_3 := hx159_3
          have hw159_2 := hx159_2
          have hw159_1 := hx159_1
          have hw159_0 := hx159_0
          cases e159
          replace hx159_0 := bx HB.out hx159_0
          replace hx159_1 := bx HB.out hx159_1
          replace hx159_2 := bx HB.out hx159_2
          replace hx159_3 := bx HB.out hx159_3
          replace hx159_4 := bx HB.out hx159_4
          replace hx159_5 := bx HB.out hx159_5
          replace p159 := eq_true p159
          replace q159 := eq_true q159
          have p161 : 0 ≤ ((ji8) : Int) := of_decide_eq_true asmB
          have q161 : (ji8) < (l0.length : Int) := of_decide_eq_true asmB
          obtain ⟨ad161, e161, hx161_0, hx161_1, hx161_2, hx161_3, hx161_4, hx161_5⟩ := at_T26 HR0.out (ji8) p161 q161
          have hw161_5 := hx161_5
          have hw161_4 := hx161_4
          have hw161_3 := hx161_3
          have hw161_2 := hx161_2
          have hw161_1 := hx161_1
          have hw161_0 := hx161_0
          obtain rfl : ad159 = ad161 := (by injection e161)
          replace hx161_0 := bx HB.out hx161_0
          replace hx161_1 := bx HB.out hx161_1
          replace hx161_2 := bx HB.out hx161_2
          replace hx161_3 := bx HB.out hx161_3
          replace hx161_4 := bx HB.out hx161_4
          replace hx161_5 := bx HB.out hx161_5
          replace p161 := eq_true p161
          replace q161 := eq_true q161
          have p162 : 0 ≤ (x3_1 : Int) := of_decide_eq_true asmB
          have q162 : x3_1 < (l0.length : Int) := of_decide_eq_true asmB
          obtain ⟨ad162, e162, hx162_0, hx162_1, hx162_2, hx162_3, hx162_4, hx162_5⟩ := at_T26 HR0.out x3_1 p162 q162
          have hw162_5 := hx162_5
          have hw162_4 := hx162_4
          have hw162_3 := hx162_3
          have hw162_2 := hx162_2
          have hw162_1 := hx162_1
          have hw162_0 := hx162_0
          obtain rfl : ad159 = ad162 := (by injection e162)
          replace hx162_0 := bx HB.out hx162_0
          replace hx162_1 := bx HB.out hx162_1
          replace hx162_2 := bx HB.out hx162_2
          replace hx162_3 := bx HB.out hx162_3
          replace hx162_4 := bx HB.out hx162_4
          replace hx162_5 := bx HB.out hx162_5
          replace p162 := eq_true p162
          replace q162 := eq_true q162
          refine sA (n := 24) (S := fun w' => w'.cell? (ad159.add ((x3_1).toNat * 6)) = some (.int .i64 ((rd_T26 l0 x3_1).f0)) ∧ w'.cell? ⟨(ad159.add ((x3_1).toNat * 6)).block, (ad159.add ((x3_1).toNat * 6)).off + 1, none⟩ = some (.string ((rd_T26 l0 x3_1).f1)) ∧ w'.cell? ⟨(ad159.add ((x3_1).toNat * 6)).block, (ad159.add ((x3_1).toNat * 6)).off + 2, none⟩ = some (.int .i64 ((rd_T26 l0 x3_1).f2)) ∧ w'.cell? ⟨(ad159.add ((x3_1).toNat * 6)).block, (ad159.add ((x3_1).toNat * 6)).off + 3, none⟩ = some (.int .i64 ((rd_T26 l0 x3_1).f3)) ∧ w'.cell? ⟨(ad159.add ((x3_1).toNat * 6)).block, (ad159.add ((x3_1).toNat * 6)).off + 4, none⟩ = some (.int .i64 ((rd_T26 l0 x3_1).f4)) ∧ w'.cell? ⟨(ad159.add ((x3_1).toNat * 6)).block, (ad159.add ((x3_1).toNat * 6)).off + 5, none⟩ = some (.int .i64 ((rd_T26 l0 x3_1).f5)) ∧ w'.cell? (ad159.add (((ji8)).toNat * 6)) = some (.int .i64 ((rd_T26 l0 (ji8)).f0)) ∧ w'.cell? ⟨(ad159.add (((ji8)).toNat * 6)).block, (ad159.add (((ji8)).toNat * 6)).off + 1, none⟩ = some (.string ((rd_T26 l0 (ji8)).f1)) ∧ w'.cell? ⟨(ad159.add (((ji8)).toNat * 6)).block, (ad159.add (((ji8)).toNat * 6)).off + 2, none⟩ = some (.int .i64 ((rd_T26 l0 (ji8)).f2)) ∧ w'.cell? ⟨(ad159.add (((ji8)).toNat * 6)).block, (ad159.add (((ji8)).toNat * 6)).off + 3, none⟩ = some (.int .i64 ((rd_T26 l0 (ji8)).f3)) ∧ w'.cell? ⟨(ad159.add (((ji8)).toNat * 6)).block, (ad159.add (((ji8)).toNat * 6)).off + 4, none⟩ = some (.int .i64 ((rd_T26 l0 (ji8)).f4)) ∧ w'.cell? ⟨(ad159.add (((ji8)).toNat * 6)).block, (ad159.add (((ji8)).toNat * 6)).off + 5, none⟩ = some (.int .i64 ((rd_T26 l0 (ji8)).f5)) ∧ w'.cell? (ad159.add ((x3_1).toNat * 6)) = some (.int .i64 ((rd_T26 l0 x3_1).f0)) ∧ w'.cell? ⟨(ad159.add ((x3_1).toNat * 6)).block, (ad159.add ((x3_1).toNat * 6)).off + 1, none⟩ = some (.string ((rd_T26 l0 x3_1).f1)) ∧ w'.cell? ⟨(ad159.add ((x3_1).toNat * 6)).block, (ad159.add ((x3_1).toNat * 6)).off + 2, none⟩ = some (.int .i64 ((rd_T26 l0 x3_1).f2)) ∧ w'.cell? ⟨(ad159.add ((x3_1).toNat * 6)).block, (ad159.add ((x3_1).toNat * 6)).off + 3, none⟩ = some (.int .i64 ((rd_T26 l0 x3_1).f3)) ∧ w'.cell? ⟨(ad159.add ((x3_1).toNat * 6)).block, (ad159.add ((x3_1).toNat * 6)).off + 4, none⟩ = some (.int .i64 ((rd_T26 l0 x3_1).f4)) ∧ w'.cell? ⟨(ad159.add ((x3_1).toNat * 6)).block, (ad159.add ((x3_1).toNat * 6)).off + 5, none⟩ = some (.int .i64 ((rd_T26 l0 x3_1).f5))) (ds := []) spec_l22Good.tab4 spec_l22Good.bits4 #[false, false, false, false, false, false, false, false, false, false, false, false, false, false, false, false, false, false, false, false, false, false, false, false] ⟨(bX HB hw159_0), (bX HB hw159_1), (bX HB hw159_2), (bX HB hw159_3), (bX HB hw159_4), (bX HB hw159_5), (bX HB hw161_0), (bX HB hw161_1), (bX HB hw161_2), (bX HB hw161_3), (bX HB hw161_4), (bX HB hw161_5), (bX HB hw162_0), (bX HB hw162_1), (bX HB hw162_2), (bX HB hw162_3), (bX HB hw162_4), (bX HB hw162_5)⟩ fun hHeld HT_ HW_ => ?_
          generalize wr.drew = w11 at HB hx159_0 hx159_1 hx159_2 hx159_3 hx159_4 hx159_5 hx161_0 hx161_1 hx161_2 hx161_3 hx161_4 hx161_5 hx162_0 hx162_1 hx162_2 hx162_3 hx162_4 hx162_5 hHeld ⊢
          refine pA 0 11 HT_ ?_
          refine pA 1 12 HT_ ?_
          refine pA 2 13 HT_ ?_
          refine tA 3 14 HT_ HW_ hHeld ?_
          refine oA 4 (some 15) HT_ fun K hK => ?_
          refine rA Tryd.func53 (spec_l22One.calls k1 ((rd_T26 l0 x3_1).f0) ((rd_T26 l0 x3_1).f1) ((rd_T26 l0 x3_1).f2) ((rd_T26 l0 x3_1).f3) ((rd_T26 l0 x3_1).f4) ((rd_T26 l0 x3_1).f5) true _ A5.out) ?_
          intro w12 hb
          replace HB := uB HB hb
          (try clear hb)
          refine hK.out _ _ ⟨(bX HB hw159_0), (bX HB hw159_1), (bX HB hw159_2), (bX HB hw159_3), (bX HB hw159_4), (bX HB hw159_5), (bX HB hw161_0), (bX HB hw161_1), (bX HB hw161_2), (bX HB hw161_3), (bX HB hw161_4), (bX HB hw161_5), (bX HB hw162_0), (bX HB hw162_1), (bX HB hw162_2), (bX HB hw162_3), (bX HB hw162_4), (bX HB hw162_5)⟩ (fun hHeld => ?_)
          clear hK K
          refine nA ?_ (some 15)
          refine pA 5 16 HT_ ?_
          refine pA 6 17 HT_ ?_
          refine pA 7 18 HT_ ?_
          refine pA 8 19 HT_ ?_
          refine pA 9 20 HT_ ?_
          refine pA 10 21 HT_ ?_
          refine pA 11 22 HT_ ?_
          refine pA 12 23 HT_ ?_
          refine pA 13 24 HT_ ?_
          refine pA 14 25 HT_ ?_
          refine pA 16 27 HT_ ?_
          refine pA 17 28 HT_ ?_
          refine pA 18 29 HT_ ?_
          refine pA 19 30 HT_ ?_
          refine tA 15 26 HT_ HW_ hHeld ?_
          refine tA 20 31 HT_ HW_ hHeld ?_
          refine pA 21 32 HT_ ?_
          refine pA 22 33 HT_ ?_
          refine pA 23 34 HT_ ?_
          refine done_ (done_of HT_.out (by kernel_rfl)) ?_
          try go_wp2
          go_meet
          case rel => exact ⟨_, (decide (((rd_T26 l0 (ji8)).f0) ≥ ((rd_T26 l0 x3_1).f0))), (by first | rfl | (simp; done) | (simp only [← hji8] <;> (first | rfl | simp)) | (simp [*]; done)), H', ⟨by have := HK1.out; first | omega | exact Nat.le_refl _⟩, (aB HB)⟩
         ·rw [if_neg c10] at H
          exact absurd H (by simp)
        ·rw [if_neg c9] at H
         exact absurd H (by simp)
       ·have H' := Aside0.mk H
        clear H
        try go_wp2
        replace HB := Aside0.mk (below_drew1 HB.out)
        have p159 : 0 ≤ (x3_1 : Int) := of_decide_eq_true asmB
        have q159 : x3_1 < (l0.length : Int) := of_decide_eq_true asmB
        obtain ⟨ad159, e159, hx159_0, hx159_1, hx159_2, hx159_3, hx159_4, hx159_5⟩ := at_T26 HR0.out x3_1 p159 q159
        have hw159_5 := hx159_5
        have hw159_4 := hx159_4
        have hw159_3 := hx159_3
        have hw159_2 := hx159_2
        have hw159_1 := hx159_1
        have hw159_0 := hx159_0
        cases e159
        replace hx159_0 := bx HB.out hx159_0
        replace hx159_1 := bx HB.out hx159_1
        replace hx159_2 := bx HB.out hx159_2
        replace hx159_3 := bx HB.out hx159_3
        replace hx159_4 := bx HB.out hx159_4
        replace hx159_5 := bx HB.out hx159_5
        replace p159 := eq_true p159
        replace q159 := eq_true q159
        refine sA (n := 24) (S := fun w' => w'.cell? (ad159.add ((x3_1).toNat * 6)) = some (.int .i64 ((rd_T26 l0 x3_1).f0)) ∧ w'.cell? ⟨(ad159.add ((x3_1).toNat * 6)).block, (ad159.add ((x3_1).toNat * 6)).off + 1, none⟩ = some (.string ((rd_T26 l0 x3_1).f1)) ∧ w'.cell? ⟨(ad159.add ((x3_1).toNat * 6)).block, (ad159.add ((x3_1).toNat * 6)).off + 2, none⟩ = some (.int .i64 ((rd_T26 l0 x3_1).f2)) ∧ w'.cell? ⟨(ad159.add ((x3_1).toNat * 6)).block, (ad159.add ((x3_1).toNat * 6)).off + 3, none⟩ = some (.int .i64 ((rd_T26 l0 x3_1).f3)) ∧ w'.cell? ⟨(ad159.add ((x3_1).toNat * 6)).block, (ad159.add ((x3_1).toNat * 6)).off + 4, none⟩ = some (.int .i64 ((rd_T26 l0 x3_1).f4)) ∧ w'.cell? ⟨(ad159.add ((x3_1).toNat * 6)).block, (ad159.add ((x3_1).toNat * 6)).off + 5, none⟩ = some (.int .i64 ((rd_T26 l0 x3_1).f5))) (ds := []) spec_l22Good.tab4 spec_l22Good.bits4 #[false, false, false, false, false, false, false, false, false, false, false, false, false, false, false, false, false, false, false, false, false, false, false, false] ⟨(bX HB hw159_0), (bX HB hw159_1), (bX HB hw159_2), (bX HB hw159_3), (bX HB hw159_4), (bX HB hw159_5)⟩ fun hHeld HT_ HW_ => ?_
        generalize wr.drew = w13 at HB hx159_0 hx159_1 hx159_2 hx159_3 hx159_4 hx159_5 hHeld ⊢
        refine pA 0 11 HT_ ?_
        refine pA 1 12 HT_ ?_
        refine pA 2 13 HT_ ?_
        refine tA 3 14 HT_ HW_ hHeld ?_
        refine oA 4 (some 15) HT_ fun K hK => ?_
        refine rA Tryd.func53 (spec_l22One.calls k1 ((rd_T26 l0 x3_1).f0) ((rd_T26 l0 x3_1).f1) ((rd_T26 l0 x3_1).f2) ((rd_T26 l0 x3_1).f3) ((rd_T26 l0 x3_1).f4) ((rd_T26 l0 x3_1).f5) true _ A5.out) ?_
        intro w14 hb
        replace HB := uB HB hb
        (try clear hb)
        refine hK.out _ _ ⟨(bX HB hw159_0), (bX HB hw159_1), (bX HB hw159_2), (bX HB hw159_3), (bX HB hw159_4), (bX HB hw159_5)⟩ (fun hHeld => ?_)
        clear hK K
        refine nA ?_ (some 15)
        refine pA 5 16 HT_ ?_
        refine pA 6 17 HT_ ?_
        refine pA 7 18 HT_ ?_
        refine pA 8 19 HT_ ?_
        refine pA 9 20 HT_ ?_
        refine pU 10 21 HT_ ?_
        refine pU 11 22 HT_ ?_
        refine pU 12 23 HT_ ?_
        refine pU 13 24 HT_ ?_
        refine pU 14 25 HT_ ?_
        refine pU 15 26 HT_ ?_
        refine pU 16 27 HT_ ?_
        refine pU 17 28 HT_ ?_
        refine pU 18 29 HT_ ?_
        refine pU 19 30 HT_ ?_
        refine pU 20 31 HT_ ?_
        refine pU 21 32 HT_ ?_
        refine pA 22 33 HT_ ?_
        refine pA 23 34 HT_ ?_
        refine done_ (done_of HT_.out (by kernel_rfl)) ?_
        try go_wp2
        go_meet
        case rel => exact ⟨_, (false), rB, H', ⟨by have := HK1.out; first | omega | exact Nat.le_refl _⟩, (aB HB)⟩
      ·replace H := iF (by decide) H
       have H' := Aside0.mk H
       clear H
       try go_wp2
       replace HB := Aside0.mk (below_drew1 HB.out)
       have p159 : 0 ≤ (x3_1 : Int) := of_decide_eq_true asmB
       have q159 : x3_1 < (l0.length : Int) := of_decide_eq_true asmB
       obtain ⟨ad159, e159, hx159_0, hx159_1, hx159_2, hx159_3, hx159_4, hx159_5⟩ := at_T26 HR0.out x3_1 p159 q159
       have hw159_5 := hx159_5
       have hw159_4 := hx159_4
       have hw159_3 := hx159_3
       have hw159_2 := hx159_2
       have hw159_1 := hx159_1
       have hw159_0 := hx159_0
       cases e159
       replace hx159_0 := bx HB.out hx159_0
       replace hx159_1 := bx HB.out hx159_1
       replace hx159_2 := bx HB.out hx159_2
       replace hx159_3 := bx HB.out hx159_3
       replace hx159_4 := bx HB.out hx159_4
       replace hx159_5 := bx HB.out hx159_5
       replace p159 := eq_true p159
       replace q159 := eq_true q159
       refine sA (n := 24) (S := fun w' => w'.cell? (ad159.add ((x3_1).toNat * 6)) = some (.int .i64 ((rd_T26 l0 x3_1).f0)) ∧ w'.cell? ⟨(ad159.add ((x3_1).toNat * 6)).block, (ad159.add ((x3_1).toNat * 6)).off + 1, none⟩ = some (.string ((rd_T26 l0 x3_1).f1)) ∧ w'.cell? ⟨(ad159.add ((x3_1).toNat * 6)).block, (ad159.add ((x3_1).toNat * 6)).off + 2, none⟩ = some (.int .i64 ((rd_T26 l0 x3_1).f2)) ∧ w'.cell? ⟨(ad159.add ((x3_1).toNat * 6)).block, (ad159.add ((x3_1).toNat * 6)).off + 3, none⟩ = some (.int .i64 ((rd_T26 l0 x3_1).f3)) ∧ w'.cell? ⟨(ad159.add ((x3_1).toNat * 6)).block, (ad159.add ((x3_1).toNat * 6)).off + 4, none⟩ = some (.int .i64 ((rd_T26 l0 x3_1).f4)) ∧ w'.cell? ⟨(ad159.add ((x3_1).toNat * 6)).block, (ad159.add ((x3_1).toNat * 6)).off + 5, none⟩ = some (.int .i64 ((rd_T26 l0 x3_1).f5))) (ds := []) spec_l22Good.tab4 spec_l22Good.bits4 #[false, false, false, false, false, false, false, false, false, false, false, false, false, false, false, false, false, false, false, false, false, false, false, false] ⟨(bX HB hw159_0), (bX HB hw159_1), (bX HB hw159_2), (bX HB hw159_3), (bX HB hw159_4), (bX HB hw159_5)⟩ fun hHeld HT_ HW_ => ?_
       generalize wr.drew = w15 at HB hx159_0 hx159_1 hx159_2 hx159_3 hx159_4 hx159_5 hHeld ⊢
       refine pA 0 11 HT_ ?_
       refine pA 1 12 HT_ ?_
       refine pA 2 13 HT_ ?_
       refine tA 3 14 HT_ HW_ hHeld ?_
       refine oA 4 (some 15) HT_ fun K hK => ?_
       refine rA Tryd.func53 (spec_l22One.calls k1 ((rd_T26 l0 x3_1).f0) ((rd_T26 l0 x3_1).f1) ((rd_T26 l0 x3_1).f2) ((rd_T26 l0 x3_1).f3) ((rd_T26 l0 x3_1).f4) ((rd_T26 l0 x3_1).f5) false _ A5.out) ?_
       intro w16 hb
       replace HB := uB HB hb
       (try clear hb)
       refine hK.out _ _ ⟨(bX HB hw159_0), (bX HB hw159_1), (bX HB hw159_2), (bX HB hw159_3), (bX HB hw159_4), (bX HB hw159_5)⟩ (fun hHeld => ?_)
       clear hK K
       refine nA ?_ (some 15)
       refine pA 5 16 HT_ ?_
       refine pA 6 17 HT_ ?_
       refine pU 7 18 HT_ ?_
       refine pU 8 19 HT_ ?_
       refine pU 9 20 HT_ ?_
       refine pU 10 21 HT_ ?_
       refine pU 11 22 HT_ ?_
       refine pU 12 23 HT_ ?_
       refine pU 13 24 HT_ ?_
       refine pU 14 25 HT_ ?_
       refine pU 15 26 HT_ ?_
       refine pU 16 27 HT_ ?_
       refine pU 17 28 HT_ ?_
       refine pU 18 29 HT_ ?_
       refine pU 19 30 HT_ ?_
       refine pU 20 31 HT_ ?_
       refine pU 21 32 HT_ ?_
       refine pU 22 33 HT_ ?_
       refine pA 23 34 HT_ ?_
       refine done_ (done_of HT_.out (by kernel_rfl)) ?_
       try go_wp2
       go_meet
       case rel => exact ⟨_, (true), rB, H', ⟨by have := HK1.out; first | omega | exact Nat.le_refl _⟩, (aB HB)⟩
     ·rw [if_neg c4] at H
      exact absurd H (by simp)
    case rest =>
     clear HC3
     obtain ⟨kq, x34_2, rfl, HA, HJ2, HB⟩ := hcut
     cases kq with
     | zero => exact absurd HA.out (by simp [spec_l22Good.j1])
     | succ kj2 =>
      have H := HA.out
      clear HA
      simp only [spec_l22Good.j1] at H
      rcases Bool.eq_false_or_eq_true x34_2 with rfl | rfl
      ·replace H := iT rfl H
       obtain rfl := Option.some.inj H
       go_wp2
       go_ret
       exact ⟨eB, (bW HB)⟩
      ·replace H := iF (by decide) H
       have H' := Aside0.mk H
       clear H
       go_wp2
       go_loopg [4] kj2 (fun kq v4 w' => ∃ (x4_3 : Int), v4 = .int .i64 x4_3 ∧ Aside0 (spec_l22Good.l1 kq l0 x3_1 x4_3 = some r) ∧ Aside0 (kq ≤ kj2) ∧ Aside0 (Below w.heap.size w w'))
       case atStart => exact ⟨(0), rB, H', ⟨Nat.le_refl _⟩, (aB HB)⟩
       case round =>
        clear H'
        obtain ⟨x4_3, rfl, HA, HK3, HB⟩ := hrel
        cases gk with
        | zero => exact absurd HA.out (by simp [spec_l22Good.l1])
        | succ k3 =>
         have H := HA.out
         clear HA
         simp only [spec_l22Good.l1] at H
         replace H := ifD H
         rcases H with ⟨H, -, c18b0⟩ | ⟨H, -, c18b0⟩
         ·by_cases c19 : 0 ≤ x4_3
          ·rw [if_pos c19] at H
           have c19b0 : decide (0 ≤ x4_3) = true := decide_eq_true c19
           clear c19
           by_cases c20 : x4_3 < (l0.length : Int)
           ·rw [if_pos c20] at H
            have c20b0 : decide (x4_3 < (l0.length : Int)) = true := decide_eq_true c20
            clear c20
            by_cases c21 : 0 ≤ x3_1
            ·rw [if_pos c21] at H
             have c21b0 : decide (0 ≤ x3_1) = true := decide_eq_true c21
             clear c21
             by_cases c22 : x3_1 < (l0.length : Int)
             ·rw [if_pos c22] at H
              have c22b0 : decide (x3_1 < (l0.length : Int)) = true := decide_eq_true c22
              clear c22
              replace H := bA H
              obtain ⟨t165, A23, H⟩ := H
              rcases Bool.eq_false_or_eq_true t165 with rfl | rfl
              ·replace H := iT rfl H
               obtain rfl := Option.some.inj H
               try go_wp2
               replace HB := Aside0.mk (below_drew1 HB.out)
               have p163 : 0 ≤ (x4_3 : Int) := of_decide_eq_true asmB
               have q163 : x4_3 < (l0.length : Int) := of_decide_eq_true asmB
               obtain ⟨ad163, e163, hx163_0, hx163_1, hx163_2, hx163_3, hx163_4, hx163_5⟩ := at_T26 HR0.out x4_3 p163 q163
               have hw163_5 := hx163_5
               have hw163_4 := hx163_4
               have hw163_3 := hx163_3
               have hw163_2 := hx163_2
               have hw163_1 := hx163_1
               have hw163_0 := hx163_0
               cases e163
               replace hx163_0 := bx HB.out hx163_0
               replace hx163_1 := bx HB.out hx163_1
               replace hx163_2 := bx HB.out hx163_2
               replace hx163_3 := bx HB.out hx163_3
               replace hx163_4 := bx HB.out hx163_4
               replace hx163_5 := bx HB.out hx163_5
               replace p163 := eq_true p163
               replace q163 := eq_true q163
               have p164 : 0 ≤ (x3_1 : Int) := of_decide_eq_true asmB
               have q164 : x3_1 < (l0.length : Int) := of_decide_eq_true asmB
               obtain ⟨ad164, e164, hx164_0, hx164_1, hx164_2, hx164_3, hx164_4, hx164_5⟩ := at_T26 HR0.out x3_1 p164 q164
               have hw164_5 := hx164_5
               have hw164_4 := hx164_4
               have hw164_3 := hx164_3
               have hw164_2 := hx164_2
               have hw164_1 := hx164_1
               have hw164_0 := hx164_0
               obtain rfl : ad163 = ad164 := (by injection e164)
               replace hx164_0 := bx HB.out hx164_0
               replace hx164_1 := bx HB.out hx164_1
               replace hx164_2 := bx HB.out hx164_2
               replace hx164_3 := bx HB.out hx164_3
               replace hx164_4 := bx HB.out hx164_4
               replace hx164_5 := bx HB.out hx164_5
               replace p164 := eq_true p164
               replace q164 := eq_true q164
               refine sA (n := 9) (S := fun w' => w'.cell? (ad163.add ((x4_3).toNat * 6)) = some (.int .i64 ((rd_T26 l0 x4_3).f0)) ∧ w'.cell? ⟨(ad163.add ((x4_3).toNat * 6)).block, (ad163.add ((x4_3).toNat * 6)).off + 1, none⟩ = some (.string ((rd_T26 l0 x4_3).f1)) ∧ w'.cell? ⟨(ad163.add ((x4_3).toNat * 6)).block, (ad163.add ((x4_3).toNat * 6)).off + 2, none⟩ = some (.int .i64 ((rd_T26 l0 x4_3).f2)) ∧ w'.cell? ⟨(ad163.add ((x4_3).toNat * 6)).block, (ad163.add ((x4_3).toNat * 6)).off + 3, none⟩ = some (.int .i64 ((rd_T26 l0 x4_3).f3)) ∧ w'.cell? ⟨(ad163.add ((x4_3).toNat * 6)).block, (ad163.add ((x4_3).toNat * 6)).off + 4, none⟩ = some (.int .i64 ((rd_T26 l0 x4_3).f4)) ∧ w'.cell? ⟨(ad163.add ((x4_3).toNat * 6)).block, (ad163.add ((x4_3).toNat * 6)).off + 5, none⟩ = some (.int .i64 ((rd_T26 l0 x4_3).f5)) ∧ w'.cell? (ad163.add ((x3_1).toNat * 6)) = some (.int .i64 ((rd_T26 l0 x3_1).f0)) ∧ w'.cell? ⟨(ad163.add ((x3_1).toNat * 6)).block, (ad163.add ((x3_1).toNat * 6)).off + 1, none⟩ = some (.string ((rd_T26 l0 x3_1).f1)) ∧ w'.cell? ⟨(ad163.add ((x3_1).toNat * 6)).block, (ad163.add ((x3_1).toNat * 6)).off + 2, none⟩ = some (.int .i64 ((rd_T26 l0 x3_1).f2)) ∧ w'.cell? ⟨(ad163.add ((x3_1).toNat * 6)).block, (ad163.add ((x3_1).toNat * 6)).off + 3, none⟩ = some (.int .i64 ((rd_T26 l0 x3_1).f3)) ∧ w'.cell? ⟨(ad163.add ((x3_1).toNat * 6)).block, (ad163.add ((x3_1).toNat * 6)).off + 4, none⟩ = some (.int .i64 ((rd_T26 l0 x3_1).f4)) ∧ w'.cell? ⟨(ad163.add ((x3_1).toNat * 6)).block, (ad163.add ((x3_1).toNat * 6)).off + 5, none⟩ = some (.int .i64 ((rd_T26 l0 x3_1).f5))) (ds := []) spec_l22Good.tab9 spec_l22Good.bits9 #[false, false, false, false, false, false, false, false, false] ⟨(bX HB hw163_0), (bX HB hw163_1), (bX HB hw163_2), (bX HB hw163_3), (bX HB hw163_4), (bX HB hw163_5), (bX HB hw164_0), (bX HB hw164_1), (bX HB hw164_2), (bX HB hw164_3), (bX HB hw164_4), (bX HB hw164_5)⟩ fun hHeld HT_ HW_ => ?_
               generalize wr.drew = w25 at HB hx163_0 hx163_1 hx163_2 hx163_3 hx163_4 hx163_5 hx164_0 hx164_1 hx164_2 hx164_3 hx164_4 hx164_5 hHeld ⊢
               refine pA 0 40 HT_ ?_
               refine pA 1 41 HT_ ?_
               refine pA 2 42 HT_ ?_
               refine pA 4 44 HT_ ?_
               refine pA 5 45 HT_ ?_
               refine pA 6 46 HT_ ?_
               refine tA 3 43 HT_ HW_ hHeld ?_
               refine tA 7 47 HT_ HW_ hHeld ?_
               refine oA 8 (some 48) HT_ fun K hK => ?_
               refine rA Tryd.func91 (spec_l22Conflict.calls ((rd_T26 l0 x4_3).f0) ((rd_T26 l0 x4_3).f1) ((rd_T26 l0 x4_3).f2) ((rd_T26 l0 x4_3).f3) ((rd_T26 l0 x4_3).f4) ((rd_T26 l0 x4_3).f5) ((rd_T26 l0 x3_1).f0) ((rd_T26 l0 x3_1).f1) ((rd_T26 l0 x3_1).f2) ((rd_T26 l0 x3_1).f3) ((rd_T26 l0 x3_1).f4) ((rd_T26 l0 x3_1).f5) true _ A23.out) ?_
               intro w26 hb
               replace HB := uB HB hb
               (try clear hb)
               refine hK.out _ _ ⟨(bX HB hw163_0), (bX HB hw163_1), (bX HB hw163_2), (bX HB hw163_3), (bX HB hw163_4), (bX HB hw163_5), (bX HB hw164_0), (bX HB hw164_1), (bX HB hw164_2), (bX HB hw164_3), (bX HB hw164_4), (bX HB hw164_5)⟩ (fun hHeld => ?_)
               clear hK K
               refine nA ?_ (some 48)
               refine done_ (done_of HT_.out (by kernel_rfl)) ?_
               try go_wp2
               go_ret
               exact ⟨eB, (bW HB)⟩
              ·replace H := iF (by decide) H
               have H' := Aside0.mk H
               clear H
               try go_wp2
               replace HB := Aside0.mk (below_drew1 HB.out)
               have p163 : 0 ≤ (x4_3 : Int) := of_decide_eq_true asmB
               have q163 : x4_3 < (l0.length : Int) := of_decide_eq_true asmB
               obtain ⟨ad163, e163, hx163_0, hx163_1, hx163_2, hx163_3, hx163_4, hx163_5⟩ := at_T26 HR0.out x4_3 p163 q163
               have hw163_5 := hx163_5
               have hw163_4 := hx163_4
               have hw163_3 := hx163_3
               have hw163_2 := hx163_2
               have hw163_1 := hx163_1
               have hw163_0 := hx163_0
               cases e163
               replace hx163_0 := bx HB.out hx163_0
               replace hx163_1 := bx HB.out hx163_1
               replace hx163_2 := bx HB.out hx163_2
               replace hx163_3 := bx HB.out hx163_3
               replace hx163_4 := bx HB.out hx163_4
               replace hx163_5 := bx HB.out hx163_5
               replace p163 := eq_true p163
               replace q163 := eq_true q163
               have p164 : 0 ≤ (x3_1 : Int) := of_decide_eq_true asmB
               have q164 : x3_1 < (l0.length : Int) := of_decide_eq_true asmB
               obtain ⟨ad164, e164, hx164_0, hx164_1, hx164_2, hx164_3, hx164_4, hx164_5⟩ := at_T26 HR0.out x3_1 p164 q164
               have hw164_5 := hx164_5
               have hw164_4 := hx164_4
               have hw164_3 := hx164_3
               have hw164_2 := hx164_2
               have hw164_1 := hx164_1
               have hw164_0 := hx164_0
               obtain rfl : ad163 = ad164 := (by injection e164)
               replace hx164_0 := bx HB.out hx164_0
               replace hx164_1 := bx HB.out hx164_1
               replace hx164_2 := bx HB.out hx164_2
               replace hx164_3 := bx HB.out hx164_3
               replace hx164_4 := bx HB.out hx164_4
               replace hx164_5 := bx HB.out hx164_5
               replace p164 := eq_true p164
               replace q164 := eq_true q164
               refine sA (n := 9) (S := fun w' => w'.cell? (ad163.add ((x4_3).toNat * 6)) = some (.int .i64 ((rd_T26 l0 x4_3).f0)) ∧ w'.cell? ⟨(ad163.add ((x4_3).toNat * 6)).block, (ad163.add ((x4_3).toNat * 6)).off + 1, none⟩ = some (.string ((rd_T26 l0 x4_3).f1)) ∧ w'.cell? ⟨(ad163.add ((x4_3).toNat * 6)).block, (ad163.add ((x4_3).toNat * 6)).off + 2, none⟩ = some (.int .i64 ((rd_T26 l0 x4_3).f2)) ∧ w'.cell? ⟨(ad163.add ((x4_3).toNat * 6)).block, (ad163.add ((x4_3).toNat * 6)).off + 3, none⟩ = some (.int .i64 ((rd_T26 l0 x4_3).f3)) ∧ w'.cell? ⟨(ad163.add ((x4_3).toNat * 6)).block, (ad163.add ((x4_3).toNat * 6)).off + 4, none⟩ = some (.int .i64 ((rd_T26 l0 x4_3).f4)) ∧ w'.cell? ⟨(ad163.add ((x4_3).toNat * 6)).block, (ad163.add ((x4_3).toNat * 6)).off + 5, none⟩ = some (.int .i64 ((rd_T26 l0 x4_3).f5)) ∧ w'.cell? (ad163.add ((x3_1).toNat * 6)) = some (.int .i64 ((rd_T26 l0 x3_1).f0)) ∧ w'.cell? ⟨(ad163.add ((x3_1).toNat * 6)).block, (ad163.add ((x3_1).toNat * 6)).off + 1, none⟩ = some (.string ((rd_T26 l0 x3_1).f1)) ∧ w'.cell? ⟨(ad163.add ((x3_1).toNat * 6)).block, (ad163.add ((x3_1).toNat * 6)).off + 2, none⟩ = some (.int .i64 ((rd_T26 l0 x3_1).f2)) ∧ w'.cell? ⟨(ad163.add ((x3_1).toNat * 6)).block, (ad163.add ((x3_1).toNat * 6)).off + 3, none⟩ = some (.int .i64 ((rd_T26 l0 x3_1).f3)) ∧ w'.cell? ⟨(ad163.add ((x3_1).toNat * 6)).block, (ad163.add ((x3_1).toNat * 6)).off + 4, none⟩ = some (.int .i64 ((rd_T26 l0 x3_1).f4)) ∧ w'.cell? ⟨(ad163.add ((x3_1).toNat * 6)).block, (ad163.add ((x3_1).toNat * 6)).off + 5, none⟩ = some (.int .i64 ((rd_T26 l0 x3_1).f5))) (ds := []) spec_l22Good.tab9 spec_l22Good.bits9 #[false, false, false, false, false, false, false, false, false] ⟨(bX HB hw163_0), (bX HB hw163_1), (bX HB hw163_2), (bX HB hw163_3), (bX HB hw163_4), (bX HB hw163_5), (bX HB hw164_0), (bX HB hw164_1), (bX HB hw164_2), (bX HB hw164_3), (bX HB hw164_4), (bX HB hw164_5)⟩ fun hHeld HT_ HW_ => ?_
               generalize wr.drew = w27 at HB hx163_0 hx163_1 hx163_2 hx163_3 hx163_4 hx163_5 hx164_0 hx164_1 hx164_2 hx164_3 hx164_4 hx164_5 hHeld ⊢
               refine pA 0 40 HT_ ?_
               refine pA 1 41 HT_ ?_
               refine pA 2 42 HT_ ?_
               refine pA 4 44 HT_ ?_
               refine pA 5 45 HT_ ?_
               refine pA 6 46 HT_ ?_
               refine tA 3 43 HT_ HW_ hHeld ?_
               refine tA 7 47 HT_ HW_ hHeld ?_
               refine oA 8 (some 48) HT_ fun K hK => ?_
               refine rA Tryd.func91 (spec_l22Conflict.calls ((rd_T26 l0 x4_3).f0) ((rd_T26 l0 x4_3).f1) ((rd_T26 l0 x4_3).f2) ((rd_T26 l0 x4_3).f3) ((rd_T26 l0 x4_3).f4) ((rd_T26 l0 x4_3).f5) ((rd_T26 l0 x3_1).f0) ((rd_T26 l0 x3_1).f1) ((rd_T26 l0 x3_1).f2) ((rd_T26 l0 x3_1).f3) ((rd_T26 l0 x3_1).f4) ((rd_T26 l0 x3_1).f5) false _ A23.out) ?_
               intro w28 hb
               replace HB := uB HB hb
               (try clear hb)
               refine hK.out _ _ ⟨(bX HB hw163_0), (bX HB hw163_1), (bX HB hw163_2), (bX HB hw163_3), (bX HB hw163_4), (bX HB hw163_5), (bX HB hw164_0), (bX HB hw164_1), (bX HB hw164_2), (bX HB hw164_3), (bX HB hw164_4), (bX HB hw164_5)⟩ (fun hHeld => ?_)
               clear hK K
               refine nA ?_ (some 48)
               refine done_ (done_of HT_.out (by kernel_rfl)) ?_
               try go_wp2
               go_roundg k3
               case measure => have := HK1.out; have := HJ2.out; have := HK3.out; omega
               case rel => exact ⟨(wrap64 (x4_3 + 1)), rB, H', ⟨by have := HK1.out; have := HJ2.out; have := HK3.out; omega⟩, (aB HB)⟩
             ·rw [if_neg c22] at H
              exact absurd H (by simp)
            ·rw [if_neg c21] at H
             exact absurd H (by simp)
           ·rw [if_neg c20] at H
            exact absurd H (by simp)
          ·rw [if_neg c19] at H
           exact absurd H (by simp)
         ·have H' := Aside0.mk H
          clear H
          go_wp2
          go_roundg k3
          case measure => have := HK1.out; have := HJ2.out; have := HK3.out; omega
          case rel => exact ⟨(wrap64 (x3_1 + 1)), rB, H', ⟨by have := HK1.out; have := HJ2.out; have := HK3.out; omega⟩, (aB HB)⟩
   ·obtain rfl := Option.some.inj H
    go_wp2
    go_ret
    exact ⟨eB, (bW HB)⟩

end Go.Proofs.YtgeioccfjgpijaaDoor.QFnPermitDays
