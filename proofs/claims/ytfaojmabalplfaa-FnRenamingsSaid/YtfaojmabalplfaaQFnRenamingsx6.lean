/- Contracts of Go functions that FnRenamings reaches: the call computes what the plain function says. No condition. -/
import Derived.Test.YtfaojmabalplfaaQFnRenamingsx0
import Derived.Test.YtfaojmabalplfaaQFnRenamingsx2
import Derived.Test.YtfaojmabalplfaaQFnRenamingsx3
import Derived.Test.YtfaojmabalplfaaQFnRenamingsx4
import Derived.Test.YtfaojmabalplfaaQFnRenamingsx5
namespace Go.Proofs.Ytfaojmabalplfaa.QFnRenamings
open Go.RowKit Go.Proofs.YtfaojmabalplfaaW.PrintWords Go.Proofs.YtfaojmabalplfaaW.PrintLast Go.Proofs.YtfaojmabalplfaaW.PrintMore
attribute [local go_sem] max2_int min2_int max_two min_two max_three min_three max_four min_four   -- for this text's walks alone
set_option linter.unusedVariables false
set_option linter.unusedSimpArgs false

/-! ### spec_l20Score: function 76 -/
mutual
def spec_l20Score.l0 : Nat → List (S70) → List (S70) → Int → Int → Option (Int)
 | 0, _, _, _, _ => none
 | k + 1, x0, x1, x5, x6 => if x6 < (x1.length : Int) then (spec_l20Score.l1 k x0 x1 x5 x6 false 0) else (some x5)
def spec_l20Score.l1 : Nat → List (S70) → List (S70) → Int → Int → Bool → Int → Option (Int)
 | 0, _, _, _, _, _, _ => none
 | k + 1, x0, x1, x5, x6, x7, x8 => if x8 < (x0.length : Int) then (if 0 ≤ x8 then (if 0 ≤ x6 then (if x6 < (x1.length : Int) then ((spec_DoAgree.f k ((rd_T70 x0 x8).f0) ((rd_T70 x0 x8).f1) ((rd_T70 x0 x8).f2) ((rd_T70 x0 x8).f3) ((rd_T70 x0 x8).f4) ((rd_T70 x1 x6).f0) ((rd_T70 x1 x6).f1) ((rd_T70 x1 x6).f2) ((rd_T70 x1 x6).f3) ((rd_T70 x1 x6).f4) 0 0).bind fun bt210 => (if x7 = true then (spec_l20Score.l1 k x0 x1 x5 x6 true (wrap64 (x8 + 1))) else (spec_l20Score.l1 k x0 x1 x5 x6 bt210.1 (wrap64 (x8 + 1))))) else (none)) else (none)) else (none)) else (if x7 = true then (spec_l20Score.l0 k x0 x1 (wrap64 (x5 + 1)) (wrap64 (x6 + 1))) else (spec_l20Score.l0 k x0 x1 x5 (wrap64 (x6 + 1))))
end
def spec_l20Score.f (k : Nat) (l0 : List (S70)) (l1 : List (S70)) : Option (Int) := spec_l20Score.l0 k l0 l1 0 0
theorem spec_l20Score.mono_l : ∀ k, (∀ y0 y1 y2 y3, LeO (spec_l20Score.l0 k y0 y1 y2 y3) (spec_l20Score.l0 (k + 1) y0 y1 y2 y3)) ∧ (∀ y0 y1 y2 y3 y4 y5, LeO (spec_l20Score.l1 k y0 y1 y2 y3 y4 y5) (spec_l20Score.l1 (k + 1) y0 y1 y2 y3 y4 y5))
 | 0 => ⟨fun _ _ _ _ r h => by simp [spec_l20Score.l0] at h, fun _ _ _ _ _ _ r h => by simp [spec_l20Score.l1] at h⟩
 | k + 1 => by
  obtain ⟨ih0, ih1⟩ := spec_l20Score.mono_l k
  refine ⟨?_, ?_⟩
  ·intro y0 y1 y2 y3
   unfold spec_l20Score.l0
   repeat' with_reducible first | apply ih0 | apply ih1 | apply spec_DoAgree.mono | exact LeO.refl _ | exact LeO.none _ | refine LeO.ite ?_ ?_ | refine LeO.bind ?_ (fun _ => ?_)
  ·intro y0 y1 y2 y3 y4 y5
   unfold spec_l20Score.l1
   repeat' with_reducible first | apply ih0 | apply ih1 | apply spec_DoAgree.mono | exact LeO.refl _ | exact LeO.none _ | refine LeO.ite ?_ ?_ | refine LeO.bind ?_ (fun _ => ?_)
theorem spec_l20Score.mono : ∀ a0 a1 k, LeO (spec_l20Score.f k a0 a1) (spec_l20Score.f (k + 1) a0 a1) := by
 intro a0 a1 k
 obtain ⟨ih0, ih1⟩ := spec_l20Score.mono_l k
 unfold spec_l20Score.f
 repeat' with_reducible first | apply ih0 | apply ih1 | apply spec_DoAgree.mono | exact LeO.refl _ | exact LeO.none _ | refine LeO.ite ?_ ?_ | refine LeO.bind ?_ (fun _ => ?_)
def spec_l20Score.T9 : Bool × List (List Nat × List Nat) := (true, [([], []), ([], []), ([0, 1], [0, 1]), ([2], [2]), ([], []), ([], []), ([4, 5], [4, 5]), ([6], [6]), ([3, 7], [3, 7]), ([8], [8]), ([9], [9]), ([9], [9]), ([10, 8, 0, 1, 2, 3, 4, 5, 6, 7, 8, 9, 10], [10]), ([11, 12, 0, 1, 2, 3, 4, 5, 6, 7, 8, 9, 10, 11, 12], [11])])
def spec_l20Score.B9 : List Nat := [0, 0, 3, 7, 0, 0, 48, 112, 255, 511, 1023, 1023, 2047, 8191]
theorem spec_l20Score.tab9 : rtab .any (opsOf Try.f76 9) = spec_l20Score.T9 := by kernel_rfl
theorem spec_l20Score.bits9 : waitsOk spec_l20Score.T9.2 spec_l20Score.B9 = true := by kernel_rfl
set_option maxHeartbeats 8000000 in
set_option maxRecDepth 100000 in
theorem spec_l20Score.calls (k : Nat) (A0 : Option Addr) (c0 : Nat) (l0 : List (S70)) (A1 : Option Addr) (c1 : Nat) (l1 : List (S70)) (r : Int) (w : World) (hr0 : Kd.C k70 w A0 l0.length l0) (hc0 : l0.length ≤ c0) (hr1 : Kd.C k70 w A1 l1.length l1) (hc1 : l1.length ≤ c1) (h : spec_l20Score.f k l0 l1 = some r) :
  Calls Try.prog 76 #[.slice A0 l0.length c0, .slice A1 l1.length c1] w fun e w' => e = .returned (.int .i64 r) ∧ Below w.heap.size w w' := by
 have hu70 := Try.underlying70
 have HR0 := Aside0.mk hr0
 have HC0 := Aside0.mk hc0
 clear hr0 hc0
 have HR1 := Aside0.mk hr1
 have HC1 := Aside0.mk hc1
 clear hr1 hc1
 have HB := Aside0.mk (Below.refl w.heap.size w)
 have H : (spec_l20Score.l0 k l0 l1 0 0) = some r := h
 clear h
 have H' := Aside0.mk H
 clear H
 go_enter Try.func76, Try.ntmps76
 go_wp2
 go_loopg [5, 6] k (fun kq v5 v6 w' => ∃ (x5_1 x6_1 : Int), v5 = .int .i64 x5_1 ∧ v6 = .int .i64 x6_1 ∧ Aside0 (spec_l20Score.l0 kq l0 l1 x5_1 x6_1 = some r) ∧ Aside0 (kq ≤ k) ∧ Aside0 (Below w.heap.size w w'))
 case atStart => exact ⟨(0), (0), rB, rB, H', ⟨Nat.le_refl _⟩, (aB HB)⟩
 case round =>
  clear H'
  try clear c1
  obtain ⟨x5_1, x6_1, rfl, rfl, HA, HK1, HB⟩ := hrel
  cases gk with
  | zero => exact absurd HA.out (by simp [spec_l20Score.l0])
  | succ k1 =>
   have H := HA.out
   clear HA
   simp only [spec_l20Score.l0] at H
   replace H := ifD H
   rcases H with ⟨H, -, c3b0⟩ | ⟨H, -, c3b0⟩
   ·have H' := Aside0.mk H
    clear H
    go_wp2
    go_loopg [7, 8] k1 (fun kq v7 v8 w' => ∃ (x7_2 : Bool) (x8_2 : Int), v7 = .bool x7_2 ∧ v8 = .int .i64 x8_2 ∧ Aside0 (spec_l20Score.l1 kq l0 l1 x5_1 x6_1 x7_2 x8_2 = some r) ∧ Aside0 (kq ≤ k1) ∧ Aside0 (Below w.heap.size w w'))
    case atStart => exact ⟨(false), (0), rB, rB, H', ⟨Nat.le_refl _⟩, (aB HB)⟩
    case round =>
     clear H'
     try clear c1
     try clear c3b0
     obtain ⟨x7_2, x8_2, rfl, rfl, HA, HK2, HB⟩ := hrel
     cases gk with
     | zero => exact absurd HA.out (by simp [spec_l20Score.l1])
     | succ k2 =>
      have H := HA.out
      clear HA
      simp only [spec_l20Score.l1] at H
      replace H := ifD H
      rcases H with ⟨H, -, c4b0⟩ | ⟨H, -, c4b0⟩
      ·by_cases c5 : 0 ≤ x8_2
       ·rw [if_pos c5] at H
        have c5b0 : decide (0 ≤ x8_2) = true := decide_eq_true c5
        clear c5
        by_cases c6 : 0 ≤ x6_1
        ·rw [if_pos c6] at H
         have c6b0 : decide (0 ≤ x6_1) = true := decide_eq_true c6
         clear c6
         by_cases c7 : x6_1 < (l1.length : Int)
         ·rw [if_pos c7] at H
          have c7b0 : decide (x6_1 < (l1.length : Int)) = true := decide_eq_true c7
          clear c7
          replace H := Option.bind_eq_some_iff.mp H
          obtain ⟨⟨t210, t211⟩, A80, H⟩ := H
          replace H : (if x7_2 = true then (spec_l20Score.l1 k2 l0 l1 x5_1 x6_1 true (wrap64 (x8_2 + 1))) else (spec_l20Score.l1 k2 l0 l1 x5_1 x6_1 t210 (wrap64 (x8_2 + 1)))) = some r := H
          have A8 := Aside0.mk A80
          clear A80
          rcases Bool.eq_false_or_eq_true x7_2 with rfl | rfl
          ·replace H := iT rfl H
           have H' := Aside0.mk H
           clear H
           try go_wp2
           replace HB := Aside0.mk (below_drew1 HB.out)
           have p208 : 0 ≤ (x8_2 : Int) := of_decide_eq_true asmB
           have q208 : x8_2 < (l0.length : Int) := of_decide_eq_true asmB
           obtain ⟨ad208, e208, hx208_0, hx208_1, hx208_2, hx208_3, hx208_4⟩ := at_T70 HR0.out x8_2 p208 q208
           have hw208_4 := hx208_4
           have hw208_3 := hx208_3
           have hw208_2 := hx208_2
           have hw208_1 := hx208_1
           have hw208_0 := hx208_0
           cases e208
           replace hx208_0 := bx HB.out hx208_0
           replace hx208_1 := bx HB.out hx208_1
           replace hx208_2 := bx HB.out hx208_2
           replace hx208_3 := bx HB.out hx208_3
           replace hx208_4 := bx HB.out hx208_4
           replace p208 := eq_true p208
           replace q208 := eq_true q208
           have p209 : 0 ≤ (x6_1 : Int) := of_decide_eq_true asmB
           have q209 : x6_1 < (l1.length : Int) := of_decide_eq_true asmB
           obtain ⟨ad209, e209, hx209_0, hx209_1, hx209_2, hx209_3, hx209_4⟩ := at_T70 HR1.out x6_1 p209 q209
           have hw209_4 := hx209_4
           have hw209_3 := hx209_3
           have hw209_2 := hx209_2
           have hw209_1 := hx209_1
           have hw209_0 := hx209_0
           cases e209
           replace hx209_0 := bx HB.out hx209_0
           replace hx209_1 := bx HB.out hx209_1
           replace hx209_2 := bx HB.out hx209_2
           replace hx209_3 := bx HB.out hx209_3
           replace hx209_4 := bx HB.out hx209_4
           replace p209 := eq_true p209
           replace q209 := eq_true q209
           refine sA (n := 14) (S := fun w' => w'.cell? (ad208.add ((x8_2).toNat * 5)) = some (.int .i64 ((rd_T70 l0 x8_2).f0)) ∧ w'.cell? ⟨(ad208.add ((x8_2).toNat * 5)).block, (ad208.add ((x8_2).toNat * 5)).off + 1, none⟩ = some (.int .i64 ((rd_T70 l0 x8_2).f1)) ∧ w'.cell? ⟨(ad208.add ((x8_2).toNat * 5)).block, (ad208.add ((x8_2).toNat * 5)).off + 2, none⟩ = some (.int .i64 ((rd_T70 l0 x8_2).f2)) ∧ w'.cell? ⟨(ad208.add ((x8_2).toNat * 5)).block, (ad208.add ((x8_2).toNat * 5)).off + 3, none⟩ = some (.int .i64 ((rd_T70 l0 x8_2).f3)) ∧ w'.cell? ⟨(ad208.add ((x8_2).toNat * 5)).block, (ad208.add ((x8_2).toNat * 5)).off + 4, none⟩ = some (.int .i64 ((rd_T70 l0 x8_2).f4)) ∧ w'.cell? (ad209.add ((x6_1).toNat * 5)) = some (.int .i64 ((rd_T70 l1 x6_1).f0)) ∧ w'.cell? ⟨(ad209.add ((x6_1).toNat * 5)).block, (ad209.add ((x6_1).toNat * 5)).off + 1, none⟩ = some (.int .i64 ((rd_T70 l1 x6_1).f1)) ∧ w'.cell? ⟨(ad209.add ((x6_1).toNat * 5)).block, (ad209.add ((x6_1).toNat * 5)).off + 2, none⟩ = some (.int .i64 ((rd_T70 l1 x6_1).f2)) ∧ w'.cell? ⟨(ad209.add ((x6_1).toNat * 5)).block, (ad209.add ((x6_1).toNat * 5)).off + 3, none⟩ = some (.int .i64 ((rd_T70 l1 x6_1).f3)) ∧ w'.cell? ⟨(ad209.add ((x6_1).toNat * 5)).block, (ad209.add ((x6_1).toNat * 5)).off + 4, none⟩ = some (.int .i64 ((rd_T70 l1 x6_1).f4))) (ds := []) spec_l20Score.tab9 spec_l20Score.bits9 #[false, false, false, false, false, false, false, false, false, false, false, false, false, false] ⟨(bX HB hw208_0), (bX HB hw208_1), (bX HB hw208_2), (bX HB hw208_3), (bX HB hw208_4), (bX HB hw209_0), (bX HB hw209_1), (bX HB hw209_2), (bX HB hw209_3), (bX HB hw209_4)⟩ fun hHeld HT_ HW_ => ?_
           generalize wr.drew = w10 at HB hx208_0 hx208_1 hx208_2 hx208_3 hx208_4 hx209_0 hx209_1 hx209_2 hx209_3 hx209_4 hHeld ⊢
           refine pA 0 24 HT_ ?_
           refine pA 1 25 HT_ ?_
           refine pA 2 26 HT_ ?_
           refine pA 4 28 HT_ ?_
           refine pA 5 29 HT_ ?_
           refine pA 6 30 HT_ ?_
           refine tA 3 27 HT_ HW_ hHeld ?_
           refine tA 7 31 HT_ HW_ hHeld ?_
           refine oA 8 (some 32) HT_ fun K hK => ?_
           refine rA Try.func73 (spec_DoAgree.calls k2 ((rd_T70 l0 x8_2).f0) ((rd_T70 l0 x8_2).f1) ((rd_T70 l0 x8_2).f2) ((rd_T70 l0 x8_2).f3) ((rd_T70 l0 x8_2).f4) ((rd_T70 l1 x6_1).f0) ((rd_T70 l1 x6_1).f1) ((rd_T70 l1 x6_1).f2) ((rd_T70 l1 x6_1).f3) ((rd_T70 l1 x6_1).f4) 0 0 t210 t211 _ A8.out) ?_
           intro w11 hb
           replace HB := uB HB hb
           (try clear hb)
           refine hK.out _ _ ⟨(bX HB hw208_0), (bX HB hw208_1), (bX HB hw208_2), (bX HB hw208_3), (bX HB hw208_4), (bX HB hw209_0), (bX HB hw209_1), (bX HB hw209_2), (bX HB hw209_3), (bX HB hw209_4)⟩ (fun hHeld => ?_)
           clear hK K
           refine nA ?_ (some 32)
           refine pA 9 23 HT_ ?_
           refine pA 10 33 HT_ ?_
           refine pA 11 34 HT_ ?_
           refine pA 12 9 HT_ ?_
           refine pA 13 10 HT_ ?_
           refine done_ (done_of HT_.out (by kernel_rfl)) ?_
           try go_wp2
           go_roundg k2
           case measure => have := HK1.out; have := HK2.out; omega
           case rel => exact ⟨(true), (wrap64 (x8_2 + 1)), rB, rB, H', ⟨by have := HK1.out; have := HK2.out; omega⟩, (aB HB)⟩
          ·replace H := iF (by decide) H
           have H' := Aside0.mk H
           clear H
           try go_wp2
           replace HB := Aside0.mk (below_drew1 HB.out)
           have p208 : 0 ≤ (x8_2 : Int) := of_decide_eq_true asmB
           have q208 : x8_2 < (l0.length : Int) := of_decide_eq_true asmB
           obtain ⟨ad208, e208, hx208_0, hx208_1, hx208_2, hx208_3, hx208_4⟩ := at_T70 HR0.out x8_2 p208 q208
           have hw208_4 := hx208_4
           have hw208_3 := hx208_3
           have hw208_2 := hx208_2
           have hw208_1 := hx208_1
           have hw208_0 := hx208_0
           cases e208
           replace hx208_0 := bx HB.out hx208_0
           replace hx208_1 := bx HB.out hx208_1
           replace hx208_2 := bx HB.out hx208_2
           replace hx208_3 := bx HB.out hx208_3
           replace hx208_4 := bx HB.out hx208_4
           replace p208 := eq_true p208
           replace q208 := eq_true q208
           have p209 : 0 ≤ (x6_1 : Int) := of_decide_eq_true asmB
           have q209 : x6_1 < (l1.length : Int) := of_decide_eq_true asmB
           obtain ⟨ad209, e209, hx209_0, hx209_1, hx209_2, hx209_3, hx209_4⟩ := at_T70 HR1.out x6_1 p209 q209
           have hw209_4 := hx209_4
           have hw209_3 := hx209_3
           have hw209_2 := hx209_2
           have hw209_1 := hx209_1
           have hw209_0 := hx209_0
           cases e209
           replace hx209_0 := bx HB.out hx209_0
           replace hx209_1 := bx HB.out hx209_1
           replace hx209_2 := bx HB.out hx209_2
           replace hx209_3 := bx HB.out hx209_3
           replace hx209_4 := bx HB.out hx209_4
           replace p209 := eq_true p209
           replace q209 := eq_true q209
           refine sA (n := 14) (S := fun w' => w'.cell? (ad208.add ((x8_2).toNat * 5)) = some (.int .i64 ((rd_T70 l0 x8_2).f0)) ∧ w'.cell? ⟨(ad208.add ((x8_2).toNat * 5)).block, (ad208.add ((x8_2).toNat * 5)).off + 1, none⟩ = some (.int .i64 ((rd_T70 l0 x8_2).f1)) ∧ w'.cell? ⟨(ad208.add ((x8_2).toNat * 5)).block, (ad208.add ((x8_2).toNat * 5)).off + 2, none⟩ = some (.int .i64 ((rd_T70 l0 x8_2).f2)) ∧ w'.cell? ⟨(ad208.add ((x8_2).toNat * 5)).block, (ad208.add ((x8_2).toNat * 5)).off + 3, none⟩ = some (.int .i64 ((rd_T70 l0 x8_2).f3)) ∧ w'.cell? ⟨(ad208.add ((x8_2).toNat * 5)).block, (ad208.add ((x8_2).toNat * 5)).off + 4, none⟩ = some (.int .i64 ((rd_T70 l0 x8_2).f4)) ∧ w'.cell? (ad209.add ((x6_1).toNat * 5)) = some (.int .i64 ((rd_T70 l1 x6_1).f0)) ∧ w'.cell? ⟨(ad209.add ((x6_1).toNat * 5)).block, (ad209.add ((x6_1).toNat * 5)).off + 1, none⟩ = some (.int .i64 ((rd_T70 l1 x6_1).f1)) ∧ w'.cell? ⟨(ad209.add ((x6_1).toNat * 5)).block, (ad209.add ((x6_1).toNat * 5)).off + 2, none⟩ = some (.int .i64 ((rd_T70 l1 x6_1).f2)) ∧ w'.cell? ⟨(ad209.add ((x6_1).toNat * 5)).block, (ad209.add ((x6_1).toNat * 5)).off + 3, none⟩ = some (.int .i64 ((rd_T70 l1 x6_1).f3)) ∧ w'.cell? ⟨(ad209.add ((x6_1).toNat * 5)).block, (ad209.add ((x6_1).toNat * 5)).off + 4, none⟩ = some (.int .i64 ((rd_T70 l1 x6_1).f4))) (ds := []) spec_l20Score.tab9 spec_l20Score.bits9 #[false, false, false, false, false, false, false, false, false, false, false, false, false, false] ⟨(bX HB hw208_0), (bX HB hw208_1), (bX HB hw208_2), (bX HB hw208_3), (bX HB hw208_4), (bX HB hw209_0), (bX HB hw209_1), (bX HB hw209_2), (bX HB hw209_3), (bX HB hw209_4)⟩ fun hHeld HT_ HW_ => ?_
           generalize wr.drew = w12 at HB hx208_0 hx208_1 hx208_2 hx208_3 hx208_4 hx209_0 hx209_1 hx209_2 hx209_3 hx209_4 hHeld ⊢
           refine pA 0 24 HT_ ?_
           refine pA 1 25 HT_ ?_
           refine pA 2 26 HT_ ?_
           refine pA 4 28 HT_ ?_
           refine pA 5 29 HT_ ?_
           refine pA 6 30 HT_ ?_
           refine tA 3 27 HT_ HW_ hHeld ?_
           refine tA 7 31 HT_ HW_ hHeld ?_
           refine oA 8 (some 32) HT_ fun K hK => ?_
           refine rA Try.func73 (spec_DoAgree.calls k2 ((rd_T70 l0 x8_2).f0) ((rd_T70 l0 x8_2).f1) ((rd_T70 l0 x8_2).f2) ((rd_T70 l0 x8_2).f3) ((rd_T70 l0 x8_2).f4) ((rd_T70 l1 x6_1).f0) ((rd_T70 l1 x6_1).f1) ((rd_T70 l1 x6_1).f2) ((rd_T70 l1 x6_1).f3) ((rd_T70 l1 x6_1).f4) 0 0 t210 t211 _ A8.out) ?_
           intro w13 hb
           replace HB := uB HB hb
           (try clear hb)
           refine hK.out _ _ ⟨(bX HB hw208_0), (bX HB hw208_1), (bX HB hw208_2), (bX HB hw208_3), (bX HB hw208_4), (bX HB hw209_0), (bX HB hw209_1), (bX HB hw209_2), (bX HB hw209_3), (bX HB hw209_4)⟩ (fun hHeld => ?_)
           clear hK K
           refine nA ?_ (some 32)
           refine pA 9 23 HT_ ?_
           refine pA 10 33 HT_ ?_
           refine pA 11 34 HT_ ?_
           refine pA 12 9 HT_ ?_
           refine pA 13 10 HT_ ?_
           refine done_ (done_of HT_.out (by kernel_rfl)) ?_
           try go_wp2
           go_roundg k2
           case measure => have := HK1.out; have := HK2.out; omega
           case rel => exact ⟨(t210), (wrap64 (x8_2 + 1)), rB, rB, H', ⟨by have := HK1.out; have := HK2.out; omega⟩, (aB HB)⟩
         ·rw [if_neg c7] at H
          exact absurd H (by simp)
        ·rw [if_neg c6] at H
         exact absurd H (by simp)
       ·rw [if_neg c5] at H
        exact absurd H (by simp)
      ·rcases Bool.eq_false_or_eq_true x7_2 with rfl | rfl
       ·replace H := iT rfl H
        have H' := Aside0.mk H
        clear H
        go_wp2
        go_roundg k2
        case measure => have := HK1.out; have := HK2.out; omega
        case rel => exact ⟨(wrap64 (x5_1 + 1)), (wrap64 (x6_1 + 1)), rB, rB, H', ⟨by have := HK1.out; have := HK2.out; omega⟩, (aB HB)⟩
       ·replace H := iF (by decide) H
        have H' := Aside0.mk H
        clear H
        go_wp2
        go_roundg k2
        case measure => have := HK1.out; have := HK2.out; omega
        case rel => exact ⟨(x5_1), (wrap64 (x6_1 + 1)), rB, rB, H', ⟨by have := HK1.out; have := HK2.out; omega⟩, (aB HB)⟩
   ·obtain rfl := Option.some.inj H
    go_wp2
    go_ret
    exact ⟨eB, (bW HB)⟩

/-! ### spec_MatchScore: function 40 -/
def spec_MatchScore.j0 : Nat → List (S70) → List (S70) → List Int → Bool → Option (Int × Bool)
 | 0, _, _, _, _ => none
 | k + 1, x0, x1, x2, x20 => if x20 = true then (some (0, false)) else ((spec_l20Rename.f x1 x2).bind fun t215 => ((spec_l20Score.f k x0 t215).bind fun t218 => (some (t218, true))))
def spec_MatchScore.f (k : Nat) (l0 : List (S70)) (l1 : List (S70)) (l2 : List Int) : Option (Int × Bool) := (spec_l4Legs.f k l0).bind fun t212 => (if t212 = true then ((spec_l4Legs.f k l1).bind fun t213 => (if t213 = true then ((spec_l20Good.f k l2).bind fun t214 => (spec_MatchScore.j0 k l0 l1 l2 (!t214))) else (spec_MatchScore.j0 k l0 l1 l2 true))) else (spec_MatchScore.j0 k l0 l1 l2 true))
theorem spec_MatchScore.mono_l : ∀ k, (∀ y0 y1 y2 y3, LeO (spec_MatchScore.j0 k y0 y1 y2 y3) (spec_MatchScore.j0 (k + 1) y0 y1 y2 y3))
 | 0 => fun _ _ _ _ r h => by simp [spec_MatchScore.j0] at h
 | k + 1 => by
  have ih0 := spec_MatchScore.mono_l k
  ·intro y0 y1 y2 y3
   unfold spec_MatchScore.j0
   repeat' with_reducible first | apply ih0 | apply spec_l20Good.mono | apply spec_l20Score.mono | apply spec_l4Legs.mono | exact LeO.refl _ | exact LeO.none _ | refine LeO.ite ?_ ?_ | refine LeO.bind ?_ (fun _ => ?_)
theorem spec_MatchScore.mono : ∀ a0 a1 a2 k, LeO (spec_MatchScore.f k a0 a1 a2) (spec_MatchScore.f (k + 1) a0 a1 a2) := by
 intro a0 a1 a2 k
 have ih0 := spec_MatchScore.mono_l k
 unfold spec_MatchScore.f
 repeat' with_reducible first | apply ih0 | apply spec_l20Good.mono | apply spec_l20Score.mono | apply spec_l4Legs.mono | exact LeO.refl _ | exact LeO.none _ | refine LeO.ite ?_ ?_ | refine LeO.bind ?_ (fun _ => ?_)
set_option maxHeartbeats 8000000 in
set_option maxRecDepth 100000 in
theorem spec_MatchScore.calls (k : Nat) (A0 : Option Addr) (c0 : Nat) (l0 : List (S70)) (A1 : Option Addr) (c1 : Nat) (l1 : List (S70)) (A2 : Option Addr) (c2 : Nat) (l2 : List Int) (r1 : Int) (r2 : Bool) (w : World) (hr0 : Kd.C k70 w A0 l0.length l0) (hc0 : l0.length ≤ c0) (hr1 : Kd.C k70 w A1 l1.length l1) (hc1 : l1.length ≤ c1) (hr2 : Kd.C (Kd.int .i64) w A2 l2.length l2) (hc2 : l2.length ≤ c2) (h : spec_MatchScore.f k l0 l1 l2 = some (r1, r2)) :
  Calls Try.prog 40 #[.slice A0 l0.length c0, .slice A1 l1.length c1, .slice A2 l2.length c2] w fun e w' => e = .returned (.tuple #[.int .i64 r1, .bool r2]) ∧ Below w.heap.size w w' := by
 have HR0 := Aside0.mk hr0
 have HC0 := Aside0.mk hc0
 clear hr0 hc0
 have HR1 := Aside0.mk hr1
 have HC1 := Aside0.mk hc1
 clear hr1 hc1
 have HR2 := Aside0.mk hr2
 have HC2 := Aside0.mk hc2
 clear hr2 hc2
 have HB := Aside0.mk (Below.refl w.heap.size w)
 have H := h
 clear h
 unfold spec_MatchScore.f at H
 have HC4 := Aside0.mk H
 clear H
 go_enter Try.func40, Try.ntmps40
 go_upto_region 1 with (fail)
 go_cut [20] (fun v20 wc => ∃ (kq : Nat) (x20_3 : Bool), v20 = .bool x20_3 ∧ Aside0 (spec_MatchScore.j0 kq l0 l1 l2 x20_3 = some (r1, r2)) ∧ Aside0 (kq ≤ k) ∧ Aside0 (Below w.heap.size w wc))
 case first =>
  have H := HC4.out
  clear HC4
  replace H := bA H
  obtain ⟨t212, A5, H⟩ := H
  rcases Bool.eq_false_or_eq_true t212 with rfl | rfl
  ·replace H := iT rfl H
   replace H := bA H
   obtain ⟨t213, A7, H⟩ := H
   rcases Bool.eq_false_or_eq_true t213 with rfl | rfl
   ·replace H := iT rfl H
    replace H := bA H
    obtain ⟨t214, A9, H⟩ := H
    have H' := Aside0.mk H
    clear H
    go_wp2_with (first | ((with_reducible refine gC 59 ?_); refine lA (some 9) Try.func59 (spec_l4Legs.calls k _ _ l0 true _ ?side1 ?side2 A5.out) ?_; (case side1 => repeat (first | exact (Kd.C_below HR0.out HB.out) | (with_reducible refine Kd.C_alloc ?_ _) | (with_reducible refine Kd.C_drewN ?_ _) | (with_reducible refine Kd.C_drew ?_))); (case side2 => exact HC0.out); intro w10 hb; replace HB := uB HB hb; (try clear hb)) | (go_at_call 59; (with_reducible refine (spec_l4Legs.calls k _ _ l1 true _ ?side1 ?side2 A7.out).mono ?_); (case side1 => repeat (first | exact (Kd.C_below HR1.out HB.out) | (with_reducible refine Kd.C_alloc ?_ _) | (with_reducible refine Kd.C_drewN ?_ _) | (with_reducible refine Kd.C_drew ?_))); (case side2 => exact HC1.out); rintro e w11 ⟨rfl, hb⟩; replace HB := uB HB hb; (try clear hb)) | (go_at_call 56; (with_reducible refine (spec_l20Good.calls k _ _ l2 t214 _ ?side1 ?side2 A9.out).mono ?_); (case side1 => repeat (first | exact (Kd.C_below HR2.out HB.out) | (with_reducible refine Kd.C_alloc ?_ _) | (with_reducible refine Kd.C_drewN ?_ _) | (with_reducible refine Kd.C_drew ?_))); (case side2 => exact HC2.out); rintro e w' ⟨rfl, ⟨nd, rfl⟩⟩))
    go_meet
    case rel => exact ⟨_, (!t214), rB, H', leB, (aB HB)⟩
   ·replace H := iF (by decide) H
    have H' := Aside0.mk H
    clear H
    go_wp2_with (first | ((with_reducible refine gC 59 ?_); refine lA (some 9) Try.func59 (spec_l4Legs.calls k _ _ l0 true _ ?side1 ?side2 A5.out) ?_; (case side1 => repeat (first | exact (Kd.C_below HR0.out HB.out) | (with_reducible refine Kd.C_alloc ?_ _) | (with_reducible refine Kd.C_drewN ?_ _) | (with_reducible refine Kd.C_drew ?_))); (case side2 => exact HC0.out); intro w12 hb; replace HB := uB HB hb; (try clear hb)) | (go_at_call 59; (with_reducible refine (spec_l4Legs.calls k _ _ l1 false _ ?side1 ?side2 A7.out).mono ?_); (case side1 => repeat (first | exact (Kd.C_below HR1.out HB.out) | (with_reducible refine Kd.C_alloc ?_ _) | (with_reducible refine Kd.C_drewN ?_ _) | (with_reducible refine Kd.C_drew ?_))); (case side2 => exact HC1.out); rintro e w13 ⟨rfl, hb⟩; replace HB := uB HB hb; (try clear hb)))
    go_meet
    case rel => exact ⟨_, (true), rB, H', leB, (aB HB)⟩
  ·replace H := iF (by decide) H
   have H' := Aside0.mk H
   clear H
   go_wp2_with (first | ((with_reducible refine gC 59 ?_); refine lA (some 9) Try.func59 (spec_l4Legs.calls k _ _ l0 false _ ?side1 ?side2 A5.out) ?_; (case side1 => repeat (first | exact (Kd.C_below HR0.out HB.out) | (with_reducible refine Kd.C_alloc ?_ _) | (with_reducible refine Kd.C_drewN ?_ _) | (with_reducible refine Kd.C_drew ?_))); (case side2 => exact HC0.out); intro w14 hb; replace HB := uB HB hb; (try clear hb)))
   go_meet
   case rel => exact ⟨_, (true), rB, H', leB, (aB HB)⟩
 case rest =>
  clear HC4
  try clear c1
  try clear c2
  obtain ⟨kq, x20_3, rfl, HA, HJ3, HB⟩ := hcut
  cases kq with
  | zero => exact absurd HA.out (by simp [spec_MatchScore.j0])
  | succ kj3 =>
   have H := HA.out
   clear HA
   simp only [spec_MatchScore.j0] at H
   rcases Bool.eq_false_or_eq_true x20_3 with rfl | rfl
   ·replace H := iT rfl H
    simp only [Option.some.injEq, Prod.mk.injEq] at H
    obtain ⟨rfl, rfl⟩ := H
    go_wp2
    go_ret2
    exact ⟨eB, (bW HB)⟩
   ·replace H := iF (by decide) H
    replace H := bA H
    obtain ⟨t215, A16, H⟩ := H
    replace H := bA H
    obtain ⟨t218, A17, H⟩ := H
    simp only [Option.some.injEq, Prod.mk.injEq] at H
    obtain ⟨rfl, rfl⟩ := H
    go_wp2_with (first | ((with_reducible refine gate_callee (f := 71) rfl ?_); refine goesL_ (some 24) rfl rfl Try.func71 (by kernel_rfl) rfl #[.slice A1 l1.length c1, .slice A2 l2.length c2] rfl argsB ?_; (with_reducible refine (spec_l20Rename.calls _ _ l1 _ _ l2 t215 _ ?side1 ?side2 ?side3 ?side4 A16.out).mono ?_); (case side1 => repeat (first | exact (Kd.C_below HR1.out HB.out) | (with_reducible refine Kd.C_alloc ?_ _) | (with_reducible refine Kd.C_drewN ?_ _) | (with_reducible refine Kd.C_drew ?_))); (case side2 => exact HC1.out); (case side3 => repeat (first | exact (Kd.C_below HR2.out HB.out) | (with_reducible refine Kd.C_alloc ?_ _) | (with_reducible refine Kd.C_drewN ?_ _) | (with_reducible refine Kd.C_drew ?_))); (case side4 => exact HC2.out); rintro e w18 ⟨v216, rfl, ho0, hb⟩; refine ⟨_, rfl, ?_⟩; have HO217 := Aside0.mk (Kd.R_lower ho0 (below_size (bW HB))); replace HB := uB HB hb; (try clear hb); (try clear ho0); obtain ⟨Ao19, co19, eo19⟩ := Kd.R_slice HO217.out; subst eo19) | ((with_reducible refine gC 76 ?_); refine lA (some 25) Try.func76 (spec_l20Score.calls kj3 _ _ l0 _ _ t215 t218 _ ?side1 ?side2 ?side3 ?side4 A17.out) ?_; (case side1 => repeat (first | exact (Kd.C_below HR0.out HB.out) | (with_reducible refine Kd.C_alloc ?_ _) | (with_reducible refine Kd.C_drewN ?_ _) | (with_reducible refine Kd.C_drew ?_))); (case side2 => exact HC0.out); (case side3 => repeat (first | exact (Kd.R_reads' HO217.out).2.2 | (with_reducible refine Kd.C_alloc ?_ _) | (with_reducible refine Kd.C_drewN ?_ _) | (with_reducible refine Kd.C_drew ?_))); (case side4 => exact (Kd.R_reads' HO217.out).2.1); intro w20 hb; replace HO217 := uR HO217 hb; replace HB := uB HB hb; (try clear hb)))
    go_ret2
    exact ⟨eB, (bW HB)⟩

-- NOT PRINTED: function 94 (impl_Leg_94)

-- NOT PRINTED: function 68 (impl_Leg_68)

/-! ### impl_joins: function 70 -/
def impl_joins.f (a0_0 a0_1 a0_2 a0_3 a0_4 a1_0 a1_1 a1_2 a1_3 a1_4 : Int) : Option (Bool) := if a0_0 = a1_0 then (if a0_1 = a1_1 then (some true) else (if a0_0 = a1_1 then (some (a0_1 == a1_0)) else (some false))) else (if a0_0 = a1_1 then (some (a0_1 == a1_0)) else (some false))
set_option maxHeartbeats 8000000 in
set_option maxRecDepth 100000 in
theorem impl_joins.calls (a0_0 a0_1 a0_2 a0_3 a0_4 a1_0 a1_1 a1_2 a1_3 a1_4 : Int) (r : Bool) (w : World) (h : impl_joins.f a0_0 a0_1 a0_2 a0_3 a0_4 a1_0 a1_1 a1_2 a1_3 a1_4 = some r) :
  Calls Try.prog 70 #[.agg #[.int .i64 a0_0, .int .i64 a0_1, .int .i64 a0_2, .int .i64 a0_3, .int .i64 a0_4], .agg #[.int .i64 a1_0, .int .i64 a1_1, .int .i64 a1_2, .int .i64 a1_3, .int .i64 a1_4]] w fun e w' => e = .returned (.bool r) ∧ Below w.heap.size w w' := by
 have hu70 := Try.underlying70
 have HB := Aside0.mk (Below.refl w.heap.size w)
 have H := h
 clear h
 unfold impl_joins.f at H
 replace H := ifI H
 rcases H with ⟨H, -, c3b0, c3b1⟩ | ⟨H, c3, c3b0, c3b1⟩
 ·replace H := ifI H
  rcases H with ⟨H, -, c4b0, c4b1⟩ | ⟨H, c4, c4b0, c4b1⟩
  ·obtain rfl := Option.some.inj H
   go_enter Try.func70, Try.ntmps70
   go_wp2_with (first | ((with_reducible refine gD 2 ?_); refine bxE 2 70 #[.int .i64 a0_0, .int .i64 a0_1, .int .i64 a0_2, .int .i64 a0_3, .int .i64 a0_4] fun gb219 w5 hg hbox hb => ?_; have BK219 := Aside0.mk hbox; have GE219 := gB HB hg; replace HB := uB HB hb; clear hb hbox hg) | ((with_reducible refine gD 3 ?_); refine bxE 3 70 #[.int .i64 a1_0, .int .i64 a1_1, .int .i64 a1_2, .int .i64 a1_3, .int .i64 a1_4] fun gb220 w6 hg hbox hb => ?_; have BK220 := Aside0.mk hbox; have GE220 := gB HB hg; have ⟨NB219_220, NB220_219⟩ := nB BK219 hg; replace BK219 := uK BK219 hb; replace HB := uB HB hb; clear hb hbox hg; have hnb7 := NB219_220.out; have hnc7 := NB220_219.out; have ⟨hcz8_0, hcz8_1, hcz8_2, hcz8_3, hcz8_4, hfz8_0⟩ := cz5 BK219; have ⟨hcz9_0, hcz9_1, hcz9_2, hcz9_3, hcz9_4, hfz9_0⟩ := cz5 BK220))
   go_ret
   exact ⟨eB, (bW HB)⟩
  ·replace H := ifI H
   rcases H with ⟨H, -, c10b0, c10b1⟩ | ⟨H, c10, c10b0, c10b1⟩
   ·obtain rfl := Option.some.inj H
    go_enter Try.func70, Try.ntmps70
    go_wp2_with (first | ((with_reducible refine gD 2 ?_); refine bxE 2 70 #[.int .i64 a0_0, .int .i64 a0_1, .int .i64 a0_2, .int .i64 a0_3, .int .i64 a0_4] fun gb219 w11 hg hbox hb => ?_; have BK219 := Aside0.mk hbox; have GE219 := gB HB hg; replace HB := uB HB hb; clear hb hbox hg) | ((with_reducible refine gD 3 ?_); refine bxE 3 70 #[.int .i64 a1_0, .int .i64 a1_1, .int .i64 a1_2, .int .i64 a1_3, .int .i64 a1_4] fun gb220 w12 hg hbox hb => ?_; have BK220 := Aside0.mk hbox; have GE220 := gB HB hg; have ⟨NB219_220, NB220_219⟩ := nB BK219 hg; replace BK219 := uK BK219 hb; replace HB := uB HB hb; clear hb hbox hg; have hnb13 := NB219_220.out; have hnc13 := NB220_219.out; have ⟨hcz14_0, hcz14_1, hcz14_2, hcz14_3, hcz14_4, hfz14_0⟩ := cz5 BK219; have ⟨hcz15_0, hcz15_1, hcz15_2, hcz15_3, hcz15_4, hfz15_0⟩ := cz5 BK220))
    go_ret
    exact ⟨eB, (bW HB)⟩
   ·obtain rfl := Option.some.inj H
    go_enter Try.func70, Try.ntmps70
    go_wp2_with (first | ((with_reducible refine gD 2 ?_); refine bxE 2 70 #[.int .i64 a0_0, .int .i64 a0_1, .int .i64 a0_2, .int .i64 a0_3, .int .i64 a0_4] fun gb219 w16 hg hbox hb => ?_; have BK219 := Aside0.mk hbox; have GE219 := gB HB hg; replace HB := uB HB hb; clear hb hbox hg) | ((with_reducible refine gD 3 ?_); refine bxE 3 70 #[.int .i64 a1_0, .int .i64 a1_1, .int .i64 a1_2, .int .i64 a1_3, .int .i64 a1_4] fun gb220 w17 hg hbox hb => ?_; have BK220 := Aside0.mk hbox; have GE220 := gB HB hg; have ⟨NB219_220, NB220_219⟩ := nB BK219 hg; replace BK219 := uK BK219 hb; replace HB := uB HB hb; clear hb hbox hg; have hnb18 := NB219_220.out; have hnc18 := NB220_219.out; have ⟨hcz19_0, hcz19_1, hcz19_2, hcz19_3, hcz19_4, hfz19_0⟩ := cz5 BK219; have ⟨hcz20_0, hcz20_1, hcz20_2, hcz20_3, hcz20_4, hfz20_0⟩ := cz5 BK220))
    go_ret
    exact ⟨eB, (bW HB)⟩
 ·replace H := ifI H
  rcases H with ⟨H, -, c21b0, c21b1⟩ | ⟨H, c21, c21b0, c21b1⟩
  ·obtain rfl := Option.some.inj H
   go_enter Try.func70, Try.ntmps70
   go_wp2_with (first | ((with_reducible refine gD 2 ?_); refine bxE 2 70 #[.int .i64 a0_0, .int .i64 a0_1, .int .i64 a0_2, .int .i64 a0_3, .int .i64 a0_4] fun gb219 w22 hg hbox hb => ?_; have BK219 := Aside0.mk hbox; have GE219 := gB HB hg; replace HB := uB HB hb; clear hb hbox hg) | ((with_reducible refine gD 3 ?_); refine bxE 3 70 #[.int .i64 a1_0, .int .i64 a1_1, .int .i64 a1_2, .int .i64 a1_3, .int .i64 a1_4] fun gb220 w23 hg hbox hb => ?_; have BK220 := Aside0.mk hbox; have GE220 := gB HB hg; have ⟨NB219_220, NB220_219⟩ := nB BK219 hg; replace BK219 := uK BK219 hb; replace HB := uB HB hb; clear hb hbox hg; have hnb24 := NB219_220.out; have hnc24 := NB220_219.out; have ⟨hcz25_0, hcz25_1, hcz25_2, hcz25_3, hcz25_4, hfz25_0⟩ := cz5 BK219; have ⟨hcz26_0, hcz26_1, hcz26_2, hcz26_3, hcz26_4, hfz26_0⟩ := cz5 BK220))
   go_ret
   exact ⟨eB, (bW HB)⟩
  ·obtain rfl := Option.some.inj H
   go_enter Try.func70, Try.ntmps70
   go_wp2_with (first | ((with_reducible refine gD 2 ?_); refine bxE 2 70 #[.int .i64 a0_0, .int .i64 a0_1, .int .i64 a0_2, .int .i64 a0_3, .int .i64 a0_4] fun gb219 w27 hg hbox hb => ?_; have BK219 := Aside0.mk hbox; have GE219 := gB HB hg; replace HB := uB HB hb; clear hb hbox hg) | ((with_reducible refine gD 3 ?_); refine bxE 3 70 #[.int .i64 a1_0, .int .i64 a1_1, .int .i64 a1_2, .int .i64 a1_3, .int .i64 a1_4] fun gb220 w28 hg hbox hb => ?_; have BK220 := Aside0.mk hbox; have GE220 := gB HB hg; have ⟨NB219_220, NB220_219⟩ := nB BK219 hg; replace BK219 := uK BK219 hb; replace HB := uB HB hb; clear hb hbox hg; have hnb29 := NB219_220.out; have hnc29 := NB220_219.out; have ⟨hcz30_0, hcz30_1, hcz30_2, hcz30_3, hcz30_4, hfz30_0⟩ := cz5 BK219; have ⟨hcz31_0, hcz31_1, hcz31_2, hcz31_3, hcz31_4, hfz31_0⟩ := cz5 BK220))
   go_ret
   exact ⟨eB, (bW HB)⟩

/-! ### impl_back: function 114 -/
def impl_back.f (a0 : Int) : Option (Int) := some (Int.tmod (wrap64 (a0 + 180)) 360)
set_option maxHeartbeats 8000000 in
set_option maxRecDepth 100000 in
theorem impl_back.calls (a0 r : Int) (w : World) (h : impl_back.f a0 = some r) :
  Calls Try.prog 114 #[.int .i64 a0] w fun e w' => e = .returned (.int .i64 r) ∧ Drawn0 w w' := by
 have H : (some (Int.tmod (wrap64 (a0 + 180)) 360)) = some r := h
 clear h
 obtain rfl := Option.some.inj H
 go_enter Try.func114, Try.ntmps114
 go_wp2
 go_ret
 exact ⟨rB, by repeat (first | exact Drawn0.refl _ | apply Drawn0.step)⟩

end Go.Proofs.Ytfaojmabalplfaa.QFnRenamings
