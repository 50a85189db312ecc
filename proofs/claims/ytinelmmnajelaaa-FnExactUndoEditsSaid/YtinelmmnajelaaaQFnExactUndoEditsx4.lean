/- Contracts of Go functions that FnExactUndoEdits reaches: the call computes what the plain function says. No condition. -/
import Derived.Test.YtinelmmnajelaaaQFnExactUndoEditsx0
import Derived.Test.YtinelmmnajelaaaQFnExactUndoEditsx2
namespace Go.Proofs.Ytinelmmnajelaaa.QFnExactUndoEdits
open Go.RowKit Go.Proofs.YtinelmmnajelaaaW.PrintWords Go.Proofs.YtinelmmnajelaaaW.PrintLast Go.Proofs.YtinelmmnajelaaaW.PrintMore
attribute [local go_sem] max2_int min2_int max_two min_two max_three min_three max_four min_four   -- for this text's walks alone
set_option linter.unusedVariables false
set_option linter.unusedSimpArgs false

/-! ### laws_heldEditS: function 25 -/
def laws_heldEditS.l0 : Nat → List (S28) → Int → Int → Option (Int)
 | 0, _, _, _ => none
 | k + 1, x0, x1, x5 => if x5 < (x0.length : Int) then (if 0 ≤ x5 then (if ((rd_T28 x0 x5).f0) = x1 then (if ((rd_T28 x0 x5).f1) = (wrap64 (x1 + 1)) then (if ((rd_T28 x0 x5).f2.f0) = (wrap64 ((wrap64 (x1 + 1)) + 1)) then (if ((rd_T28 x0 x5).f2.f1) = (wrap64 ((wrap64 ((wrap64 (x1 + 1)) + 1)) + 1)) then (if ((rd_T28 x0 x5).f2.f2) = (wrap64 ((wrap64 ((wrap64 ((wrap64 (x1 + 1)) + 1)) + 1)) + 1)) then (if ((rd_T28 x0 x5).f2.f3) = (wrap64 ((wrap64 ((wrap64 ((wrap64 ((wrap64 (x1 + 1)) + 1)) + 1)) + 1)) + 1)) then (if ((rd_T28 x0 x5).f2.f4) = (wrap64 ((wrap64 ((wrap64 ((wrap64 ((wrap64 ((wrap64 (x1 + 1)) + 1)) + 1)) + 1)) + 1)) + 1)) then (if ((rd_T28 x0 x5).f3.f0) = (wrap64 ((wrap64 ((wrap64 ((wrap64 ((wrap64 ((wrap64 ((wrap64 (x1 + 1)) + 1)) + 1)) + 1)) + 1)) + 1)) + 1)) then (if ((rd_T28 x0 x5).f3.f1) = (wrap64 ((wrap64 ((wrap64 ((wrap64 ((wrap64 ((wrap64 ((wrap64 ((wrap64 (x1 + 1)) + 1)) + 1)) + 1)) + 1)) + 1)) + 1)) + 1)) then (if ((rd_T28 x0 x5).f3.f2) = (wrap64 ((wrap64 ((wrap64 ((wrap64 ((wrap64 ((wrap64 ((wrap64 ((wrap64 ((wrap64 (x1 + 1)) + 1)) + 1)) + 1)) + 1)) + 1)) + 1)) + 1)) + 1)) then (if ((rd_T28 x0 x5).f3.f3) = (wrap64 ((wrap64 ((wrap64 ((wrap64 ((wrap64 ((wrap64 ((wrap64 ((wrap64 ((wrap64 ((wrap64 (x1 + 1)) + 1)) + 1)) + 1)) + 1)) + 1)) + 1)) + 1)) + 1)) + 1)) then (if ((rd_T28 x0 x5).f3.f4) = (wrap64 ((wrap64 ((wrap64 ((wrap64 ((wrap64 ((wrap64 ((wrap64 ((wrap64 ((wrap64 ((wrap64 ((wrap64 (x1 + 1)) + 1)) + 1)) + 1)) + 1)) + 1)) + 1)) + 1)) + 1)) + 1)) + 1)) then (laws_heldEditS.l0 k x0 (wrap64 ((wrap64 ((wrap64 ((wrap64 ((wrap64 ((wrap64 ((wrap64 ((wrap64 ((wrap64 ((wrap64 ((wrap64 ((wrap64 (x1 + 1)) + 1)) + 1)) + 1)) + 1)) + 1)) + 1)) + 1)) + 1)) + 1)) + 1)) + 1)) (wrap64 (x5 + 1))) else (some (-1))) else (some (-1))) else (some (-1))) else (some (-1))) else (some (-1))) else (some (-1))) else (some (-1))) else (some (-1))) else (some (-1))) else (some (-1))) else (some (-1))) else (some (-1))) else (none)) else (some x1)
def laws_heldEditS.f (k : Nat) (l0 : List (S28)) (a1 : Int) : Option (Int) := laws_heldEditS.l0 k l0 a1 0
theorem laws_heldEditS.mono_l : ∀ k, (∀ y0 y1 y2, LeO (laws_heldEditS.l0 k y0 y1 y2) (laws_heldEditS.l0 (k + 1) y0 y1 y2))
 | 0 => fun _ _ _ r h => by simp [laws_heldEditS.l0] at h
 | k + 1 => by
  have ih0 := laws_heldEditS.mono_l k
  ·intro y0 y1 y2
   unfold laws_heldEditS.l0
   repeat' with_reducible first | apply ih0 | exact LeO.refl _ | exact LeO.none _ | refine LeO.ite ?_ ?_ | refine LeO.bind ?_ (fun _ => ?_)
theorem laws_heldEditS.mono : ∀ a0 a1 k, LeO (laws_heldEditS.f k a0 a1) (laws_heldEditS.f (k + 1) a0 a1) := by
 intro a0 a1 k
 have ih0 := laws_heldEditS.mono_l k
 unfold laws_heldEditS.f
 repeat' with_reducible first | apply ih0 | exact LeO.refl _ | exact LeO.none _ | refine LeO.ite ?_ ?_ | refine LeO.bind ?_ (fun _ => ?_)
set_option maxHeartbeats 8000000 in
set_option maxRecDepth 100000 in
theorem laws_heldEditS.calls (k : Nat) (A0 : Option Addr) (c0 : Nat) (l0 : List (S28)) (a1 r : Int) (w : World) (hr0 : Kd.C k28 w A0 l0.length l0) (hc0 : l0.length ≤ c0) (h : laws_heldEditS.f k l0 a1 = some r) :
  Calls Try.prog 25 #[.slice A0 l0.length c0, .int .i64 a1] w fun e w' => e = .returned (.int .i64 r) ∧ Drawn0 w w' := by
 have HR0 := Aside0.mk hr0
 have HC0 := Aside0.mk hc0
 clear hr0 hc0
 have H : (laws_heldEditS.l0 k l0 a1 0) = some r := h
 clear h
 have H' := Aside0.mk H
 clear H
 go_enter Try.func25, Try.ntmps25
 go_wp2
 go_loopg [1, 5] k (fun kq v1 v5 w' => ∃ (x1_1 x5_1 : Int), v1 = .int .i64 x1_1 ∧ v5 = .int .i64 x5_1 ∧ Aside0 (laws_heldEditS.l0 kq l0 x1_1 x5_1 = some r) ∧ Aside0 (kq ≤ k) ∧ Drawn0 w w')
 case atStart => exact ⟨(a1), (0), rB, rB, H', ⟨Nat.le_refl _⟩, by repeat (first | exact Drawn0.refl _ | apply Drawn0.step)⟩
 case round =>
  clear H'
  obtain ⟨x1_1, x5_1, rfl, rfl, HA, HK1, ⟨m1, rfl⟩⟩ := hrel
  cases gk with
  | zero => exact absurd HA.out (by simp [laws_heldEditS.l0])
  | succ k1 =>
   have H := HA.out
   clear HA
   simp only [laws_heldEditS.l0] at H
   replace H := ifD H
   rcases H with ⟨H, -, c3b0⟩ | ⟨H, -, c3b0⟩
   ·by_cases c4 : 0 ≤ x5_1
    ·rw [if_pos c4] at H
     have c4b0 : decide (0 ≤ x5_1) = true := decide_eq_true c4
     clear c4
     replace H := ifI H
     rcases H with ⟨H, -, c5b0, c5b1⟩ | ⟨H, c5, c5b0, c5b1⟩
     ·replace H := ifI H
      rcases H with ⟨H, -, c6b0, c6b1⟩ | ⟨H, c6, c6b0, c6b1⟩
      ·replace H := ifI H
       rcases H with ⟨H, -, c7b0, c7b1⟩ | ⟨H, c7, c7b0, c7b1⟩
       ·replace H := ifI H
        rcases H with ⟨H, -, c8b0, c8b1⟩ | ⟨H, c8, c8b0, c8b1⟩
        ·replace H := ifI H
         rcases H with ⟨H, -, c9b0, c9b1⟩ | ⟨H, c9, c9b0, c9b1⟩
         ·replace H := ifI H
          rcases H with ⟨H, -, c10b0, c10b1⟩ | ⟨H, c10, c10b0, c10b1⟩
          ·replace H := ifI H
           rcases H with ⟨H, -, c11b0, c11b1⟩ | ⟨H, c11, c11b0, c11b1⟩
           ·replace H := ifI H
            rcases H with ⟨H, -, c12b0, c12b1⟩ | ⟨H, c12, c12b0, c12b1⟩
            ·replace H := ifI H
             rcases H with ⟨H, -, c13b0, c13b1⟩ | ⟨H, c13, c13b0, c13b1⟩
             ·replace H := ifI H
              rcases H with ⟨H, -, c14b0, c14b1⟩ | ⟨H, c14, c14b0, c14b1⟩
              ·replace H := ifI H
               rcases H with ⟨H, -, c15b0, c15b1⟩ | ⟨H, c15, c15b0, c15b1⟩
               ·replace H := ifI H
                rcases H with ⟨H, -, c16b0, c16b1⟩ | ⟨H, c16, c16b0, c16b1⟩
                ·have H' := Aside0.mk H
                 clear H
                 have p137 : 0 ≤ (x5_1 : Int) := of_decide_eq_true asmB
                 have q137 : x5_1 < (l0.length : Int) := of_decide_eq_true asmB
                 obtain ⟨ad137, e137, hx137_0, hx137_1, hx137_2, hx137_3, hx137_4, hx137_5, hx137_6, hx137_7, hx137_8, hx137_9, hx137_10, hx137_11⟩ := at_T28 HR0.out x5_1 p137 q137
                 cases e137
                 replace p137 := eq_true p137
                 replace q137 := eq_true q137
                 have p138 : 0 ≤ (x5_1 : Int) := of_decide_eq_true asmB
                 have q138 : x5_1 < (l0.length : Int) := of_decide_eq_true asmB
                 obtain ⟨ad138, e138, hx138_0, hx138_1, hx138_2, hx138_3, hx138_4, hx138_5, hx138_6, hx138_7, hx138_8, hx138_9, hx138_10, hx138_11⟩ := at_T28 HR0.out x5_1 p138 q138
                 obtain rfl : ad137 = ad138 := (by injection e138)
                 replace p138 := eq_true p138
                 replace q138 := eq_true q138
                 have p139 : 0 ≤ (x5_1 : Int) := of_decide_eq_true asmB
                 have q139 : x5_1 < (l0.length : Int) := of_decide_eq_true asmB
                 obtain ⟨ad139, e139, hx139_0, hx139_1, hx139_2, hx139_3, hx139_4, hx139_5, hx139_6, hx139_7, hx139_8, hx139_9, hx139_10, hx139_11⟩ := at_T28 HR0.out x5_1 p139 q139
                 obtain rfl : ad137 = ad139 := (by injection e139)
                 replace p139 := eq_true p139
                 replace q139 := eq_true q139
                 have p140 : 0 ≤ (x5_1 : Int) := of_decide_eq_true asmB
                 have q140 : x5_1 < (l0.length : Int) := of_decide_eq_true asmB
                 obtain ⟨ad140, e140, hx140_0, hx140_1, hx140_2, hx140_3, hx140_4, hx140_5, hx140_6, hx140_7, hx140_8, hx140_9, hx140_10, hx140_11⟩ := at_T28 HR0.out x5_1 p140 q140
                 obtain rfl : ad137 = ad140 := (by injection e140)
                 replace p140 := eq_true p140
                 replace q140 := eq_true q140
                 have p141 : 0 ≤ (x5_1 : Int) := of_decide_eq_true asmB
                 have q141 : x5_1 < (l0.length : Int) := of_decide_eq_true asmB
                 obtain ⟨ad141, e141, hx141_0, hx141_1, hx141_2, hx141_3, hx141_4, hx141_5, hx141_6, hx141_7, hx141_8, hx141_9, hx141_10, hx141_11⟩ := at_T28 HR0.out x5_1 p141 q141
                 obtain rfl : ad137 = ad141 := (by injection e141)
                 replace p141 := eq_true p141
                 replace q141 := eq_true q141
                 have p142 : 0 ≤ (x5_1 : Int) := of_decide_eq_true asmB
                 have q142 : x5_1 < (l0.length : Int) := of_decide_eq_true asmB
                 obtain ⟨ad142, e142, hx142_0, hx142_1, hx142_2, hx142_3, hx142_4, hx142_5, hx142_6, hx142_7, hx142_8, hx142_9, hx142_10, hx142_11⟩ := at_T28 HR0.out x5_1 p142 q142
                 obtain rfl : ad137 = ad142 := (by injection e142)
                 replace p142 := eq_true p142
                 replace q142 := eq_true q142
                 have p143 : 0 ≤ (x5_1 : Int) := of_decide_eq_true asmB
                 have q143 : x5_1 < (l0.length : Int) := of_decide_eq_true asmB
                 obtain ⟨ad143, e143, hx143_0, hx143_1, hx143_2, hx143_3, hx143_4, hx143_5, hx143_6, hx143_7, hx143_8, hx143_9, hx143_10, hx143_11⟩ := at_T28 HR0.out x5_1 p143 q143
                 obtain rfl : ad137 = ad143 := (by injection e143)
                 replace p143 := eq_true p143
                 replace q143 := eq_true q143
                 have p144 : 0 ≤ (x5_1 : Int) := of_decide_eq_true asmB
                 have q144 : x5_1 < (l0.length : Int) := of_decide_eq_true asmB
                 obtain ⟨ad144, e144, hx144_0, hx144_1, hx144_2, hx144_3, hx144_4, hx144_5, hx144_6, hx144_7, hx144_8, hx144_9, hx144_10, hx144_11⟩ := at_T28 HR0.out x5_1 p144 q144
                 obtain rfl : ad137 = ad144 := (by injection e144)
                 replace p144 := eq_true p144
                 replace q144 := eq_true q144
                 have p145 : 0 ≤ (x5_1 : Int) := of_decide_eq_true asmB
                 have q145 : x5_1 < (l0.length : Int) := of_decide_eq_true asmB
                 obtain ⟨ad145, e145, hx145_0, hx145_1, hx145_2, hx145_3, hx145_4, hx145_5, hx145_6, hx145_7, hx145_8, hx145_9, hx145_10, hx145_11⟩ := at_T28 HR0.out x5_1 p145 q145
                 obtain rfl : ad137 = ad145 := (by injection e145)
                 replace p145 := eq_true p145
                 replace q145 := eq_true q145
                 have p146 : 0 ≤ (x5_1 : Int) := of_decide_eq_true asmB
                 have q146 : x5_1 < (l0.length : Int) := of_decide_eq_true asmB
                 obtain ⟨ad146, e146, hx146_0, hx146_1, hx146_2, hx146_3, hx146_4, hx146_5, hx146_6, hx146_7, hx146_8, hx146_9, hx146_10, hx146_11⟩ := at_T28 HR0.out x5_1 p146 q146
                 obtain rfl : ad137 = ad146 := (by injection e146)
                 replace p146 := eq_true p146
                 replace q146 := eq_true q146
                 have p147 : 0 ≤ (x5_1 : Int) := of_decide_eq_true asmB
                 have q147 : x5_1 < (l0.length : Int) := of_decide_eq_true asmB
                 obtain ⟨ad147, e147, hx147_0, hx147_1, hx147_2, hx147_3, hx147_4, hx147_5, hx147_6, hx147_7, hx147_8, hx147_9, hx147_10, hx147_11⟩ := at_T28 HR0.out x5_1 p147 q147
                 obtain rfl : ad137 = ad147 := (by injection e147)
                 replace p147 := eq_true p147
                 replace q147 := eq_true q147
                 have p148 : 0 ≤ (x5_1 : Int) := of_decide_eq_true asmB
                 have q148 : x5_1 < (l0.length : Int) := of_decide_eq_true asmB
                 obtain ⟨ad148, e148, hx148_0, hx148_1, hx148_2, hx148_3, hx148_4, hx148_5, hx148_6, hx148_7, hx148_8, hx148_9, hx148_10, hx148_11⟩ := at_T28 HR0.out x5_1 p148 q148
                 obtain rfl : ad137 = ad148 := (by injection e148)
                 replace p148 := eq_true p148
                 replace q148 := eq_true q148
                 go_wp2
                 go_roundg k1
                 case measure => have := HK1.out; omega
                 case rel => exact ⟨(wrap64 ((wrap64 ((wrap64 ((wrap64 ((wrap64 ((wrap64 ((wrap64 ((wrap64 ((wrap64 ((wrap64 ((wrap64 ((wrap64 (x1_1 + 1)) + 1)) + 1)) + 1)) + 1)) + 1)) + 1)) + 1)) + 1)) + 1)) + 1)) + 1)), (wrap64 (x5_1 + 1)), rB, rB, H', ⟨by have := HK1.out; omega⟩, by repeat (first | exact Drawn0.refl _ | apply Drawn0.step)⟩
                ·obtain rfl := Option.some.inj H
                 have p137 : 0 ≤ (x5_1 : Int) := of_decide_eq_true asmB
                 have q137 : x5_1 < (l0.length : Int) := of_decide_eq_true asmB
                 obtain ⟨ad137, e137, hx137_0, hx137_1, hx137_2, hx137_3, hx137_4, hx137_5, hx137_6, hx137_7, hx137_8, hx137_9, hx137_10, hx137_11⟩ := at_T28 HR0.out x5_1 p137 q137
                 cases e137
                 replace p137 := eq_true p137
                 replace q137 := eq_true q137
                 have p138 : 0 ≤ (x5_1 : Int) := of_decide_eq_true asmB
                 have q138 : x5_1 < (l0.length : Int) := of_decide_eq_true asmB
                 obtain ⟨ad138, e138, hx138_0, hx138_1, hx138_2, hx138_3, hx138_4, hx138_5, hx138_6, hx138_7, hx138_8, hx138_9, hx138_10, hx138_11⟩ := at_T28 HR0.out x5_1 p138 q138
                 obtain rfl : ad137 = ad138 := (by injection e138)
                 replace p138 := eq_true p138
                 replace q138 := eq_true q138
                 have p139 : 0 ≤ (x5_1 : Int) := of_decide_eq_true asmB
                 have q139 : x5_1 < (l0.length : Int) := of_decide_eq_true asmB
                 obtain ⟨ad139, e139, hx139_0, hx139_1, hx139_2, hx139_3, hx139_4, hx139_5, hx139_6, hx139_7, hx139_8, hx139_9, hx139_10, hx139_11⟩ := at_T28 HR0.out x5_1 p139 q139
                 obtain rfl : ad137 = ad139 := (by injection e139)
                 replace p139 := eq_true p139
                 replace q139 := eq_true q139
                 have p140 : 0 ≤ (x5_1 : Int) := of_decide_eq_true asmB
                 have q140 : x5_1 < (l0.length : Int) := of_decide_eq_true asmB
                 obtain ⟨ad140, e140, hx140_0, hx140_1, hx140_2, hx140_3, hx140_4, hx140_5, hx140_6, hx140_7, hx140_8, hx140_9, hx140_10, hx140_11⟩ := at_T28 HR0.out x5_1 p140 q140
                 obtain rfl : ad137 = ad140 := (by injection e140)
                 replace p140 := eq_true p140
                 replace q140 := eq_true q140
                 have p141 : 0 ≤ (x5_1 : Int) := of_decide_eq_true asmB
                 have q141 : x5_1 < (l0.length : Int) := of_decide_eq_true asmB
                 obtain ⟨ad141, e141, hx141_0, hx141_1, hx141_2, hx141_3, hx141_4, hx141_5, hx141_6, hx141_7, hx141_8, hx141_9, hx141_10, hx141_11⟩ := at_T28 HR0.out x5_1 p141 q141
                 obtain rfl : ad137 = ad141 := (by injection e141)
                 replace p141 := eq_true p141
                 replace q141 := eq_true q141
                 have p142 : 0 ≤ (x5_1 : Int) := of_decide_eq_true asmB
                 have q142 : x5_1 < (l0.length : Int) := of_decide_eq_true asmB
                 obtain ⟨ad142, e142, hx142_0, hx142_1, hx142_2, hx142_3, hx142_4, hx142_5, hx142_6, hx142_7, hx142_8, hx142_9, hx142_10, hx142_11⟩ := at_T28 HR0.out x5_1 p142 q142
                 obtain rfl : ad137 = ad142 := (by injection e142)
                 replace p142 := eq_true p142
                 replace q142 := eq_true q142
                 have p143 : 0 ≤ (x5_1 : Int) := of_decide_eq_true asmB
                 have q143 : x5_1 < (l0.length : Int) := of_decide_eq_true asmB
                 obtain ⟨ad143, e143, hx143_0, hx143_1, hx143_2, hx143_3, hx143_4, hx143_5, hx143_6, hx143_7, hx143_8, hx143_9, hx143_10, hx143_11⟩ := at_T28 HR0.out x5_1 p143 q143
                 obtain rfl : ad137 = ad143 := (by injection e143)
                 replace p143 := eq_true p143
                 replace q143 := eq_true q143
                 have p144 : 0 ≤ (x5_1 : Int) := of_decide_eq_true asmB
                 have q144 : x5_1 < (l0.length : Int) := of_decide_eq_true asmB
                 obtain ⟨ad144, e144, hx144_0, hx144_1, hx144_2, hx144_3, hx144_4, hx144_5, hx144_6, hx144_7, hx144_8, hx144_9, hx144_10, hx144_11⟩ := at_T28 HR0.out x5_1 p144 q144
                 obtain rfl : ad137 = ad144 := (by injection e144)
                 replace p144 := eq_true p144
                 replace q144 := eq_true q144
                 have p145 : 0 ≤ (x5_1 : Int) := of_decide_eq_true asmB
                 have q145 : x5_1 < (l0.length : Int) := of_decide_eq_true asmB
                 obtain ⟨ad145, e145, hx145_0, hx145_1, hx145_2, hx145_3, hx145_4, hx145_5, hx145_6, hx145_7, hx145_8, hx145_9, hx145_10, hx145_11⟩ := at_T28 HR0.out x5_1 p145 q145
                 obtain rfl : ad137 = ad145 := (by injection e145)
                 replace p145 := eq_true p145
                 replace q145 := eq_true q145
                 have p146 : 0 ≤ (x5_1 : Int) := of_decide_eq_true asmB
                 have q146 : x5_1 < (l0.length : Int) := of_decide_eq_true asmB
                 obtain ⟨ad146, e146, hx146_0, hx146_1, hx146_2, hx146_3, hx146_4, hx146_5, hx146_6, hx146_7, hx146_8, hx146_9, hx146_10, hx146_11⟩ := at_T28 HR0.out x5_1 p146 q146
                 obtain rfl : ad137 = ad146 := (by injection e146)
                 replace p146 := eq_true p146
                 replace q146 := eq_true q146
                 have p147 : 0 ≤ (x5_1 : Int) := of_decide_eq_true asmB
                 have q147 : x5_1 < (l0.length : Int) := of_decide_eq_true asmB
                 obtain ⟨ad147, e147, hx147_0, hx147_1, hx147_2, hx147_3, hx147_4, hx147_5, hx147_6, hx147_7, hx147_8, hx147_9, hx147_10, hx147_11⟩ := at_T28 HR0.out x5_1 p147 q147
                 obtain rfl : ad137 = ad147 := (by injection e147)
                 replace p147 := eq_true p147
                 replace q147 := eq_true q147
                 have p148 : 0 ≤ (x5_1 : Int) := of_decide_eq_true asmB
                 have q148 : x5_1 < (l0.length : Int) := of_decide_eq_true asmB
                 obtain ⟨ad148, e148, hx148_0, hx148_1, hx148_2, hx148_3, hx148_4, hx148_5, hx148_6, hx148_7, hx148_8, hx148_9, hx148_10, hx148_11⟩ := at_T28 HR0.out x5_1 p148 q148
                 obtain rfl : ad137 = ad148 := (by injection e148)
                 replace p148 := eq_true p148
                 replace q148 := eq_true q148
                 go_wp2
                 go_ret
                 exact ⟨rB, by repeat (first | exact Drawn0.refl _ | apply Drawn0.step)⟩
               ·obtain rfl := Option.some.inj H
                have p137 : 0 ≤ (x5_1 : Int) := of_decide_eq_true asmB
                have q137 : x5_1 < (l0.length : Int) := of_decide_eq_true asmB
                obtain ⟨ad137, e137, hx137_0, hx137_1, hx137_2, hx137_3, hx137_4, hx137_5, hx137_6, hx137_7, hx137_8, hx137_9, hx137_10, hx137_11⟩ := at_T28 HR0.out x5_1 p137 q137
                cases e137
                replace p137 := eq_true p137
                replace q137 := eq_true q137
                have p138 : 0 ≤ (x5_1 : Int) := of_decide_eq_true asmB
                have q138 : x5_1 < (l0.length : Int) := of_decide_eq_true asmB
                obtain ⟨ad138, e138, hx138_0, hx138_1, hx138_2, hx138_3, hx138_4, hx138_5, hx138_6, hx138_7, hx138_8, hx138_9, hx138_10, hx138_11⟩ := at_T28 HR0.out x5_1 p138 q138
                obtain rfl : ad137 = ad138 := (by injection e138)
                replace p138 := eq_true p138
                replace q138 := eq_true q138
                have p139 : 0 ≤ (x5_1 : Int) := of_decide_eq_true asmB
                have q139 : x5_1 < (l0.length : Int) := of_decide_eq_true asmB
                obtain ⟨ad139, e139, hx139_0, hx139_1, hx139_2, hx139_3, hx139_4, hx139_5, hx139_6, hx139_7, hx139_8, hx139_9, hx139_10, hx139_11⟩ := at_T28 HR0.out x5_1 p139 q139
                obtain rfl : ad137 = ad139 := (by injection e139)
                replace p139 := eq_true p139
                replace q139 := eq_true q139
                have p140 : 0 ≤ (x5_1 : Int) := of_decide_eq_true asmB
                have q140 : x5_1 < (l0.length : Int) := of_decide_eq_true asmB
                obtain ⟨ad140, e140, hx140_0, hx140_1, hx140_2, hx140_3, hx140_4, hx140_5, hx140_6, hx140_7, hx140_8, hx140_9, hx140_10, hx140_11⟩ := at_T28 HR0.out x5_1 p140 q140
                obtain rfl : ad137 = ad140 := (by injection e140)
                replace p140 := eq_true p140
                replace q140 := eq_true q140
                have p141 : 0 ≤ (x5_1 : Int) := of_decide_eq_true asmB
                have q141 : x5_1 < (l0.length : Int) := of_decide_eq_true asmB
                obtain ⟨ad141, e141, hx141_0, hx141_1, hx141_2, hx141_3, hx141_4, hx141_5, hx141_6, hx141_7, hx141_8, hx141_9, hx141_10, hx141_11⟩ := at_T28 HR0.out x5_1 p141 q141
                obtain rfl : ad137 = ad141 := (by injection e141)
                replace p141 := eq_true p141
                replace q141 := eq_true q141
                have p142 : 0 ≤ (x5_1 : Int) := of_decide_eq_true asmB
                have q142 : x5_1 < (l0.length : Int) := of_decide_eq_true asmB
                obtain ⟨ad142, e142, hx142_0, hx142_1, hx142_2, hx142_3, hx142_4, hx142_5, hx142_6, hx142_7, hx142_8, hx142_9, hx142_10, hx142_11⟩ := at_T28 HR0.out x5_1 p142 q142
                obtain rfl : ad137 = ad142 := (by injection e142)
                replace p142 := eq_true p142
                replace q142 := eq_true q142
                have p143 : 0 ≤ (x5_1 : Int) := of_decide_eq_true asmB
                have q143 : x5_1 < (l0.length : Int) := of_decide_eq_true asmB
                obtain ⟨ad143, e143, hx143_0, hx143_1, hx143_2, hx143_3, hx143_4, hx143_5, hx143_6, hx143_7, hx143_8, hx143_9, hx143_10, hx143_11⟩ := at_T28 HR0.out x5_1 p143 q143
                obtain rfl : ad137 = ad143 := (by injection e143)
                replace p143 := eq_true p143
                replace q143 := eq_true q143
                have p144 : 0 ≤ (x5_1 : Int) := of_decide_eq_true asmB
                have q144 : x5_1 < (l0.length : Int) := of_decide_eq_true asmB
                obtain ⟨ad144, e144, hx144_0, hx144_1, hx144_2, hx144_3, hx144_4, hx144_5, hx144_6, hx144_7, hx144_8, hx144_9, hx144_10, hx144_11⟩ := at_T28 HR0.out x5_1 p144 q144
                obtain rfl : ad137 = ad144 := (by injection e144)
                replace p144 := eq_true p144
                replace q144 := eq_true q144
                have p145 : 0 ≤ (x5_1 : Int) := of_decide_eq_true asmB
                have q145 : x5_1 < (l0.length : Int) := of_decide_eq_true asmB
                obtain ⟨ad145, e145, hx145_0, hx145_1, hx145_2, hx145_3, hx145_4, hx145_5, hx145_6, hx145_7, hx145_8, hx145_9, hx145_10, hx145_11⟩ := at_T28 HR0.out x5_1 p145 q145
                obtain rfl : ad137 = ad145 := (by injection e145)
                replace p145 := eq_true p145
                replace q145 := eq_true q145
                have p146 : 0 ≤ (x5_1 : Int) := of_decide_eq_true asmB
                have q146 : x5_1 < (l0.length : Int) := of_decide_eq_true asmB
                obtain ⟨ad146, e146, hx146_0, hx146_1, hx146_2, hx146_3, hx146_4, hx146_5, hx146_6, hx146_7, hx146_8, hx146_9, hx146_10, hx146_11⟩ := at_T28 HR0.out x5_1 p146 q146
                obtain rfl : ad137 = ad146 := (by injection e146)
                replace p146 := eq_true p146
                replace q146 := eq_true q146
                have p147 : 0 ≤ (x5_1 : Int) := of_decide_eq_true asmB
                have q147 : x5_1 < (l0.length : Int) := of_decide_eq_true asmB
                obtain ⟨ad147, e147, hx147_0, hx147_1, hx147_2, hx147_3, hx147_4, hx147_5, hx147_6, hx147_7, hx147_8, hx147_9, hx147_10, hx147_11⟩ := at_T28 HR0.out x5_1 p147 q147
                obtain rfl : ad137 = ad147 := (by injection e147)
                replace p147 := eq_true p147
                replace q147 := eq_true q147
                go_wp2
                go_ret
                exact ⟨rB, by repeat (first | exact Drawn0.refl _ | apply Drawn0.step)⟩
              ·obtain rfl := Option.some.inj H
               have p137 : 0 ≤ (x5_1 : Int) := of_decide_eq_true asmB
               have q137 : x5_1 < (l0.length : Int) := of_decide_eq_true asmB
               obtain ⟨ad137, e137, hx137_0, hx137_1, hx137_2, hx137_3, hx137_4, hx137_5, hx137_6, hx137_7, hx137_8, hx137_9, hx137_10, hx137_11⟩ := at_T28 HR0.out x5_1 p137 q137
               cases e137
               replace p137 := eq_true p137
               replace q137 := eq_true q137
               have p138 : 0 ≤ (x5_1 : Int) := of_decide_eq_true asmB
               have q138 : x5_1 < (l0.length : Int) := of_decide_eq_true asmB
               obtain ⟨ad138, e138, hx138_0, hx138_1, hx138_2, hx138_3, hx138_4, hx138_5, hx138_6, hx138_7, hx138_8, hx138_9, hx138_10, hx138_11⟩ := at_T28 HR0.out x5_1 p138 q138
               obtain rfl : ad137 = ad138 := (by injection e138)
               replace p138 := eq_true p138
               replace q138 := eq_true q138
               have p139 : 0 ≤ (x5_1 : Int) := of_decide_eq_true asmB
               have q139 : x5_1 < (l0.length : Int) := of_decide_eq_true asmB
               obtain ⟨ad139, e139, hx139_0, hx139_1, hx139_2, hx139_3, hx139_4, hx139_5, hx139_6, hx139_7, hx139_8, hx139_9, hx139_10, hx139_11⟩ := at_T28 HR0.out x5_1 p139 q139
               obtain rfl : ad137 = ad139 := (by injection e139)
               replace p139 := eq_true p139
               replace q139 := eq_true q139
               have p140 : 0 ≤ (x5_1 : Int) := of_decide_eq_true asmB
               have q140 : x5_1 < (l0.length : Int) := of_decide_eq_true asmB
               obtain ⟨ad140, e140, hx140_0, hx140_1, hx140_2, hx140_3, hx140_4, hx140_5, hx140_6, hx140_7, hx140_8, hx140_9, hx140_10, hx140_11⟩ := at_T28 HR0.out x5_1 p140 q140
               obtain rfl : ad137 = ad140 := (by injection e140)
               replace p140 := eq_true p140
               replace q140 := eq_true q140
               have p141 : 0 ≤ (x5_1 : Int) := of_decide_eq_true asmB
               have q141 : x5_1 < (l0.length : Int) := of_decide_eq_true asmB
               obtain ⟨ad141, e141, hx141_0, hx141_1, hx141_2, hx141_3, hx141_4, hx141_5, hx141_6, hx141_7, hx141_8, hx141_9, hx141_10, hx141_11⟩ := at_T28 HR0.out x5_1 p141 q141
               obtain rfl : ad137 = ad141 := (by injection e141)
               replace p141 := eq_true p141
               replace q141 := eq_true q141
               have p142 : 0 ≤ (x5_1 : Int) := of_decide_eq_true asmB
               have q142 : x5_1 < (l0.length : Int) := of_decide_eq_true asmB
               obtain ⟨ad142, e142, hx142_0, hx142_1, hx142_2, hx142_3, hx142_4, hx142_5, hx142_6, hx142_7, hx142_8, hx142_9, hx142_10, hx142_11⟩ := at_T28 HR0.out x5_1 p142 q142
               obtain rfl : ad137 = ad142 := (by injection e142)
               replace p142 := eq_true p142
               replace q142 := eq_true q142
               have p143 : 0 ≤ (x5_1 : Int) := of_decide_eq_true asmB
               have q143 : x5_1 < (l0.length : Int) := of_decide_eq_true asmB
               obtain ⟨ad143, e143, hx143_0, hx143_1, hx143_2, hx143_3, hx143_4, hx143_5, hx143_6, hx143_7, hx143_8, hx143_9, hx143_10, hx143_11⟩ := at_T28 HR0.out x5_1 p143 q143
               obtain rfl : ad137 = ad143 := (by injection e143)
               replace p143 := eq_true p143
               replace q143 := eq_true q143
               have p144 : 0 ≤ (x5_1 : Int) := of_decide_eq_true asmB
               have q144 : x5_1 < (l0.length : Int) := of_decide_eq_true asmB
               obtain ⟨ad144, e144, hx144_0, hx144_1, hx144_2, hx144_3, hx144_4, hx144_5, hx144_6, hx144_7, hx144_8, hx144_9, hx144_10, hx144_11⟩ := at_T28 HR0.out x5_1 p144 q144
               obtain rfl : ad137 = ad144 := (by injection e144)
               replace p144 := eq_true p144
               replace q144 := eq_true q144
               have p145 : 0 ≤ (x5_1 : Int) := of_decide_eq_true asmB
               have q145 : x5_1 < (l0.length : Int) := of_decide_eq_true asmB
               obtain ⟨ad145, e145, hx145_0, hx145_1, hx145_2, hx145_3, hx145_4, hx145_5, hx145_6, hx145_7, hx145_8, hx145_9, hx145_10, hx145_11⟩ := at_T28 HR0.out x5_1 p145 q145
               obtain rfl : ad137 = ad145 := (by injection e145)
               replace p145 := eq_true p145
               replace q145 := eq_true q145
               have p146 : 0 ≤ (x5_1 : Int) := of_decide_eq_true asmB
               have q146 : x5_1 < (l0.length : Int) := of_decide_eq_true asmB
               obtain ⟨ad146, e146, hx146_0, hx146_1, hx146_2, hx146_3, hx146_4, hx146_5, hx146_6, hx146_7, hx146_8, hx146_9, hx146_10, hx146_11⟩ := at_T28 HR0.out x5_1 p146 q146
               obtain rfl : ad137 = ad146 := (by injection e146)
               replace p146 := eq_true p146
               replace q146 := eq_true q146
               go_wp2
               go_ret
               exact ⟨rB, by repeat (first | exact Drawn0.refl _ | apply Drawn0.step)⟩
             ·obtain rfl := Option.some.inj H
              have p137 : 0 ≤ (x5_1 : Int) := of_decide_eq_true asmB
              have q137 : x5_1 < (l0.length : Int) := of_decide_eq_true asmB
              obtain ⟨ad137, e137, hx137_0, hx137_1, hx137_2, hx137_3, hx137_4, hx137_5, hx137_6, hx137_7, hx137_8, hx137_9, hx137_10, hx137_11⟩ := at_T28 HR0.out x5_1 p137 q137
              cases e137
              replace p137 := eq_true p137
              replace q137 := eq_true q137
              have p138 : 0 ≤ (x5_1 : Int) := of_decide_eq_true asmB
              have q138 : x5_1 < (l0.length : Int) := of_decide_eq_true asmB
              obtain ⟨ad138, e138, hx138_0, hx138_1, hx138_2, hx138_3, hx138_4, hx138_5, hx138_6, hx138_7, hx138_8, hx138_9, hx138_10, hx138_11⟩ := at_T28 HR0.out x5_1 p138 q138
              obtain rfl : ad137 = ad138 := (by injection e138)
              replace p138 := eq_true p138
              replace q138 := eq_true q138
              have p139 : 0 ≤ (x5_1 : Int) := of_decide_eq_true asmB
              have q139 : x5_1 < (l0.length : Int) := of_decide_eq_true asmB
              obtain ⟨ad139, e139, hx139_0, hx139_1, hx139_2, hx139_3, hx139_4, hx139_5, hx139_6, hx139_7, hx139_8, hx139_9, hx139_10, hx139_11⟩ := at_T28 HR0.out x5_1 p139 q139
              obtain rfl : ad137 = ad139 := (by injection e139)
              replace p139 := eq_true p139
              replace q139 := eq_true q139
              have p140 : 0 ≤ (x5_1 : Int) := of_decide_eq_true asmB
              have q140 : x5_1 < (l0.length : Int) := of_decide_eq_true asmB
              obtain ⟨ad140, e140, hx140_0, hx140_1, hx140_2, hx140_3, hx140_4, hx140_5, hx140_6, hx140_7, hx140_8, hx140_9, hx140_10, hx140_11⟩ := at_T28 HR0.out x5_1 p140 q140
              obtain rfl : ad137 = ad140 := (by injection e140)
              replace p140 := eq_true p140
              replace q140 := eq_true q140
              have p141 : 0 ≤ (x5_1 : Int) := of_decide_eq_true asmB
              have q141 : x5_1 < (l0.length : Int) := of_decide_eq_true asmB
              obtain ⟨ad141, e141, hx141_0, hx141_1, hx141_2, hx141_3, hx141_4, hx141_5, hx141_6, hx141_7, hx141_8, hx141_9, hx141_10, hx141_11⟩ := at_T28 HR0.out x5_1 p141 q141
              obtain rfl : ad137 = ad141 := (by injection e141)
              replace p141 := eq_true p141
              replace q141 := eq_true q141
              have p142 : 0 ≤ (x5_1 : Int) := of_decide_eq_true asmB
              have q142 : x5_1 < (l0.length : Int) := of_decide_eq_true asmB
              obtain ⟨ad142, e142, hx142_0, hx142_1, hx142_2, hx142_3, hx142_4, hx142_5, hx142_6, hx142_7, hx142_8, hx142_9, hx142_10, hx142_11⟩ := at_T28 HR0.out x5_1 p142 q142
              obtain rfl : ad137 = ad142 := (by injection e142)
              replace p142 := eq_true p142
              replace q142 := eq_true q142
              have p143 : 0 ≤ (x5_1 : Int) := of_decide_eq_true asmB
              have q143 : x5_1 < (l0.length : Int) := of_decide_eq_true asmB
              obtain ⟨ad143, e143, hx143_0, hx143_1, hx143_2, hx143_3, hx143_4, hx143_5, hx143_6, hx143_7, hx143_8, hx143_9, hx143_10, hx143_11⟩ := at_T28 HR0.out x5_1 p143 q143
              obtain rfl : ad137 = ad143 := (by injection e143)
              replace p143 := eq_true p143
              replace q143 := eq_true q143
              have p144 : 0 ≤ (x5_1 : Int) := of_decide_eq_true asmB
              have q144 : x5_1 < (l0.length : Int) := of_decide_eq_true asmB
              obtain ⟨ad144, e144, hx144_0, hx144_1, hx144_2, hx144_3, hx144_4, hx144_5, hx144_6, hx144_7, hx144_8, hx144_9, hx144_10, hx144_11⟩ := at_T28 HR0.out x5_1 p144 q144
              obtain rfl : ad137 = ad144 := (by injection e144)
              replace p144 := eq_true p144
              replace q144 := eq_true q144
              have p145 : 0 ≤ (x5_1 : Int) := of_decide_eq_true asmB
              have q145 : x5_1 < (l0.length : Int) := of_decide_eq_true asmB
              obtain ⟨ad145, e145, hx145_0, hx145_1, hx145_2, hx145_3, hx145_4, hx145_5, hx145_6, hx145_7, hx145_8, hx145_9, hx145_10, hx145_11⟩ := at_T28 HR0.out x5_1 p145 q145
              obtain rfl : ad137 = ad145 := (by injection e145)
              replace p145 := eq_true p145
              replace q145 := eq_true q145
              go_wp2
              go_ret
              exact ⟨rB, by repeat (first | exact Drawn0.refl _ | apply Drawn0.step)⟩
            ·obtain rfl := Option.some.inj H
             have p137 : 0 ≤ (x5_1 : Int) := of_decide_eq_true asmB
             have q137 : x5_1 < (l0.length : Int) := of_decide_eq_true asmB
             obtain ⟨ad137, e137, hx137_0, hx137_1, hx137_2, hx137_3, hx137_4, hx137_5, hx137_6, hx137_7, hx137_8, hx137_9, hx137_10, hx137_11⟩ := at_T28 HR0.out x5_1 p137 q137
             cases e137
             replace p137 := eq_true p137
             replace q137 := eq_true q137
             have p138 : 0 ≤ (x5_1 : Int) := of_decide_eq_true asmB
             have q138 : x5_1 < (l0.length : Int) := of_decide_eq_true asmB
             obtain ⟨ad138, e138, hx138_0, hx138_1, hx138_2, hx138_3, hx138_4, hx138_5, hx138_6, hx138_7, hx138_8, hx138_9, hx138_10, hx138_11⟩ := at_T28 HR0.out x5_1 p138 q138
             obtain rfl : ad137 = ad138 := (by injection e138)
             replace p138 := eq_true p138
             replace q138 := eq_true q138
             have p139 : 0 ≤ (x5_1 : Int) := of_decide_eq_true asmB
             have q139 : x5_1 < (l0.length : Int) := of_decide_eq_true asmB
             obtain ⟨ad139, e139, hx139_0, hx139_1, hx139_2, hx139_3, hx139_4, hx139_5, hx139_6, hx139_7, hx139_8, hx139_9, hx139_10, hx139_11⟩ := at_T28 HR0.out x5_1 p139 q139
             obtain rfl : ad137 = ad139 := (by injection e139)
             replace p139 := eq_true p139
             replace q139 := eq_true q139
             have p140 : 0 ≤ (x5_1 : Int) := of_decide_eq_true asmB
             have q140 : x5_1 < (l0.length : Int) := of_decide_eq_true asmB
             obtain ⟨ad140, e140, hx140_0, hx140_1, hx140_2, hx140_3, hx140_4, hx140_5, hx140_6, hx140_7, hx140_8, hx140_9, hx140_10, hx140_11⟩ := at_T28 HR0.out x5_1 p140 q140
             obtain rfl : ad137 = ad140 := (by injection e140)
             replace p140 := eq_true p140
             replace q140 := eq_true q140
             have p141 : 0 ≤ (x5_1 : Int) := of_decide_eq_true asmB
             have q141 : x5_1 < (l0.length : Int) := of_decide_eq_true asmB
             obtain ⟨ad141, e141, hx141_0, hx141_1, hx141_2, hx141_3, hx141_4, hx141_5, hx141_6, hx141_7, hx141_8, hx141_9, hx141_10, hx141_11⟩ := at_T28 HR0.out x5_1 p141 q141
             obtain rfl : ad137 = ad141 := (by injection e141)
             replace p141 := eq_true p141
             replace q141 := eq_true q141
             have p142 : 0 ≤ (x5_1 : Int) := of_decide_eq_true asmB
             have q142 : x5_1 < (l0.length : Int) := of_decide_eq_true asmB
             obtain ⟨ad142, e142, hx142_0, hx142_1, hx142_2, hx142_3, hx142_4, hx142_5, hx142_6, hx142_7, hx142_8, hx142_9, hx142_10, hx142_11⟩ := at_T28 HR0.out x5_1 p142 q142
             obtain rfl : ad137 = ad142 := (by injection e142)
             replace p142 := eq_true p142
             replace q142 := eq_true q142
             have p143 : 0 ≤ (x5_1 : Int) := of_decide_eq_true asmB
             have q143 : x5_1 < (l0.length : Int) := of_decide_eq_true asmB
             obtain ⟨ad143, e143, hx143_0, hx143_1, hx143_2, hx143_3, hx143_4, hx143_5, hx143_6, hx143_7, hx143_8, hx143_9, hx143_10, hx143_11⟩ := at_T28 HR0.out x5_1 p143 q143
             obtain rfl : ad137 = ad143 := (by injection e143)
             replace p143 := eq_true p143
             replace q143 := eq_true q143
             have p144 : 0 ≤ (x5_1 : Int) := of_decide_eq_true asmB
             have q144 : x5_1 < (l0.length : Int) := of_decide_eq_true asmB
             obtain ⟨ad144, e144, hx144_0, hx144_1, hx144_2, hx144_3, hx144_4, hx144_5, hx144_6, hx144_7, hx144_8, hx144_9, hx144_10, hx144_11⟩ := at_T28 HR0.out x5_1 p144 q144
             obtain rfl : ad137 = ad144 := (by injection e144)
             replace p144 := eq_true p144
             replace q144 := eq_true q144
             go_wp2
             go_ret
             exact ⟨rB, by repeat (first | exact Drawn0.refl _ | apply Drawn0.step)⟩
           ·obtain rfl := Option.some.inj H
            have p137 : 0 ≤ (x5_1 : Int) := of_decide_eq_true asmB
            have q137 : x5_1 < (l0.length : Int) := of_decide_eq_true asmB
            obtain ⟨ad137, e137, hx137_0, hx137_1, hx137_2, hx137_3, hx137_4, hx137_5, hx137_6, hx137_7, hx137_8, hx137_9, hx137_10, hx137_11⟩ := at_T28 HR0.out x5_1 p137 q137
            cases e137
            replace p137 := eq_true p137
            replace q137 := eq_true q137
            have p138 : 0 ≤ (x5_1 : Int) := of_decide_eq_true asmB
            have q138 : x5_1 < (l0.length : Int) := of_decide_eq_true asmB
            obtain ⟨ad138, e138, hx138_0, hx138_1, hx138_2, hx138_3, hx138_4, hx138_5, hx138_6, hx138_7, hx138_8, hx138_9, hx138_10, hx138_11⟩ := at_T28 HR0.out x5_1 p138 q138
            obtain rfl : ad137 = ad138 := (by injection e138)
            replace p138 := eq_true p138
            replace q138 := eq_true q138
            have p139 : 0 ≤ (x5_1 : Int) := of_decide_eq_true asmB
            have q139 : x5_1 < (l0.length : Int) := of_decide_eq_true asmB
            obtain ⟨ad139, e139, hx139_0, hx139_1, hx139_2, hx139_3, hx139_4, hx139_5, hx139_6, hx139_7, hx139_8, hx139_9, hx139_10, hx139_11⟩ := at_T28 HR0.out x5_1 p139 q139
            obtain rfl : ad137 = ad139 := (by injection e139)
            replace p139 := eq_true p139
            replace q139 := eq_true q139
            have p140 : 0 ≤ (x5_1 : Int) := of_decide_eq_true asmB
            have q140 : x5_1 < (l0.length : Int) := of_decide_eq_true asmB
            obtain ⟨ad140, e140, hx140_0, hx140_1, hx140_2, hx140_3, hx140_4, hx140_5, hx140_6, hx140_7, hx140_8, hx140_9, hx140_10, hx140_11⟩ := at_T28 HR0.out x5_1 p140 q140
            obtain rfl : ad137 = ad140 := (by injection e140)
            replace p140 := eq_true p140
            replace q140 := eq_true q140
            have p141 : 0 ≤ (x5_1 : Int) := of_decide_eq_true asmB
            have q141 : x5_1 < (l0.length : Int) := of_decide_eq_true asmB
            obtain ⟨ad141, e141, hx141_0, hx141_1, hx141_2, hx141_3, hx141_4, hx141_5, hx141_6, hx141_7, hx141_8, hx141_9, hx141_10, hx141_11⟩ := at_T28 HR0.out x5_1 p141 q141
            obtain rfl : ad137 = ad141 := (by injection e141)
            replace p141 := eq_true p141
            replace q141 := eq_true q141
            have p142 : 0 ≤ (x5_1 : Int) := of_decide_eq_true asmB
            have q142 : x5_1 < (l0.length : Int) := of_decide_eq_true asmB
            obtain ⟨ad142, e142, hx142_0, hx142_1, hx142_2, hx142_3, hx142_4, hx142_5, hx142_6, hx142_7, hx142_8, hx142_9, hx142_10, hx142_11⟩ := at_T28 HR0.out x5_1 p142 q142
            obtain rfl : ad137 = ad142 := (by injection e142)
            replace p142 := eq_true p142
            replace q142 := eq_true q142
            have p143 : 0 ≤ (x5_1 : Int) := of_decide_eq_true asmB
            have q143 : x5_1 < (l0.length : Int) := of_decide_eq_true asmB
            obtain ⟨ad143, e143, hx143_0, hx143_1, hx143_2, hx143_3, hx143_4, hx143_5, hx143_6, hx143_7, hx143_8, hx143_9, hx143_10, hx143_11⟩ := at_T28 HR0.out x5_1 p143 q143
            obtain rfl : ad137 = ad143 := (by injection e143)
            replace p143 := eq_true p143
            replace q143 := eq_true q143
            go_wp2
            go_ret
            exact ⟨rB, by repeat (first | exact Drawn0.refl _ | apply Drawn0.step)⟩
          ·obtain rfl := Option.some.inj H
           have p137 : 0 ≤ (x5_1 : Int) := of_decide_eq_true asmB
           have q137 : x5_1 < (l0.length : Int) := of_decide_eq_true asmB
           obtain ⟨ad137, e137, hx137_0, hx137_1, hx137_2, hx137_3, hx137_4, hx137_5, hx137_6, hx137_7, hx137_8, hx137_9, hx137_10, hx137_11⟩ := at_T28 HR0.out x5_1 p137 q137
           cases e137
           replace p137 := eq_true p137
           replace q137 := eq_true q137
           have p138 : 0 ≤ (x5_1 : Int) := of_decide_eq_true asmB
           have q138 : x5_1 < (l0.length : Int) := of_decide_eq_true asmB
           obtain ⟨ad138, e138, hx138_0, hx138_1, hx138_2, hx138_3, hx138_4, hx138_5, hx138_6, hx138_7, hx138_8, hx138_9, hx138_10, hx138_11⟩ := at_T28 HR0.out x5_1 p138 q138
           obtain rfl : ad137 = ad138 := (by injection e138)
           replace p138 := eq_true p138
           replace q138 := eq_true q138
           have p139 : 0 ≤ (x5_1 : Int) := of_decide_eq_true asmB
           have q139 : x5_1 < (l0.length : Int) := of_decide_eq_true asmB
           obtain ⟨ad139, e139, hx139_0, hx139_1, hx139_2, hx139_3, hx139_4, hx139_5, hx139_6, hx139_7, hx139_8, hx139_9, hx139_10, hx139_11⟩ := at_T28 HR0.out x5_1 p139 q139
           obtain rfl : ad137 = ad139 := (by injection e139)
           replace p139 := eq_true p139
           replace q139 := eq_true q139
           have p140 : 0 ≤ (x5_1 : Int) := of_decide_eq_true asmB
           have q140 : x5_1 < (l0.length : Int) := of_decide_eq_true asmB
           obtain ⟨ad140, e140, hx140_0, hx140_1, hx140_2, hx140_3, hx140_4, hx140_5, hx140_6, hx140_7, hx140_8, hx140_9, hx140_10, hx140_11⟩ := at_T28 HR0.out x5_1 p140 q140
           obtain rfl : ad137 = ad140 := (by injection e140)
           replace p140 := eq_true p140
           replace q140 := eq_true q140
           have p141 : 0 ≤ (x5_1 : Int) := of_decide_eq_true asmB
           have q141 : x5_1 < (l0.length : Int) := of_decide_eq_true asmB
           obtain ⟨ad141, e141, hx141_0, hx141_1, hx141_2, hx141_3, hx141_4, hx141_5, hx141_6, hx141_7, hx141_8, hx141_9, hx141_10, hx141_11⟩ := at_T28 HR0.out x5_1 p141 q141
           obtain rfl : ad137 = ad141 := (by injection e141)
           replace p141 := eq_true p141
           replace q141 := eq_true q141
           have p142 : 0 ≤ (x5_1 : Int) := of_decide_eq_true asmB
           have q142 : x5_1 < (l0.length : Int) := of_decide_eq_true asmB
           obtain ⟨ad142, e142, hx142_0, hx142_1, hx142_2, hx142_3, hx142_4, hx142_5, hx142_6, hx142_7, hx142_8, hx142_9, hx142_10, hx142_11⟩ := at_T28 HR0.out x5_1 p142 q142
           obtain rfl : ad137 = ad142 := (by injection e142)
           replace p142 := eq_true p142
           replace q142 := eq_true q142
           go_wp2
           go_ret
           exact ⟨rB, by repeat (first | exact Drawn0.refl _ | apply Drawn0.step)⟩
         ·obtain rfl := Option.some.inj H
          have p137 : 0 ≤ (x5_1 : Int) := of_decide_eq_true asmB
          have q137 : x5_1 < (l0.length : Int) := of_decide_eq_true asmB
          obtain ⟨ad137, e137, hx137_0, hx137_1, hx137_2, hx137_3, hx137_4, hx137_5, hx137_6, hx137_7, hx137_8, hx137_9, hx137_10, hx137_11⟩ := at_T28 HR0.out x5_1 p137 q137
          cases e137
          replace p137 := eq_true p137
          replace q137 := eq_true q137
          have p138 : 0 ≤ (x5_1 : Int) := of_decide_eq_true asmB
          have q138 : x5_1 < (l0.length : Int) := of_decide_eq_true asmB
          obtain ⟨ad138, e138, hx138_0, hx138_1, hx138_2, hx138_3, hx138_4, hx138_5, hx138_6, hx138_7, hx138_8, hx138_9, hx138_10, hx138_11⟩ := at_T28 HR0.out x5_1 p138 q138
          obtain rfl : ad137 = ad138 := (by injection e138)
          replace p138 := eq_true p138
          replace q138 := eq_true q138
          have p139 : 0 ≤ (x5_1 : Int) := of_decide_eq_true asmB
          have q139 : x5_1 < (l0.length : Int) := of_decide_eq_true asmB
          obtain ⟨ad139, e139, hx139_0, hx139_1, hx139_2, hx139_3, hx139_4, hx139_5, hx139_6, hx139_7, hx139_8, hx139_9, hx139_10, hx139_11⟩ := at_T28 HR0.out x5_1 p139 q139
          obtain rfl : ad137 = ad139 := (by injection e139)
          replace p139 := eq_true p139
          replace q139 := eq_true q139
          have p140 : 0 ≤ (x5_1 : Int) := of_decide_eq_true asmB
          have q140 : x5_1 < (l0.length : Int) := of_decide_eq_true asmB
          obtain ⟨ad140, e140, hx140_0, hx140_1, hx140_2, hx140_3, hx140_4, hx140_5, hx140_6, hx140_7, hx140_8, hx140_9, hx140_10, hx140_11⟩ := at_T28 HR0.out x5_1 p140 q140
          obtain rfl : ad137 = ad140 := (by injection e140)
          replace p140 := eq_true p140
          replace q140 := eq_true q140
          have p141 : 0 ≤ (x5_1 : Int) := of_decide_eq_true asmB
          have q141 : x5_1 < (l0.length : Int) := of_decide_eq_true asmB
          obtain ⟨ad141, e141, hx141_0, hx141_1, hx141_2, hx141_3, hx141_4, hx141_5, hx141_6, hx141_7, hx141_8, hx141_9, hx141_10, hx141_11⟩ := at_T28 HR0.out x5_1 p141 q141
          obtain rfl : ad137 = ad141 := (by injection e141)
          replace p141 := eq_true p141
          replace q141 := eq_true q141
          go_wp2
          go_ret
          exact ⟨rB, by repeat (first | exact Drawn0.refl _ | apply Drawn0.step)⟩
        ·obtain rfl := Option.some.inj H
         have p137 : 0 ≤ (x5_1 : Int) := of_decide_eq_true asmB
         have q137 : x5_1 < (l0.length : Int) := of_decide_eq_true asmB
         obtain ⟨ad137, e137, hx137_0, hx137_1, hx137_2, hx137_3, hx137_4, hx137_5, hx137_6, hx137_7, hx137_8, hx137_9, hx137_10, hx137_11⟩ := at_T28 HR0.out x5_1 p137 q137
         cases e137
         replace p137 := eq_true p137
         replace q137 := eq_true q137
         have p138 : 0 ≤ (x5_1 : Int) := of_decide_eq_true asmB
         have q138 : x5_1 < (l0.length : Int) := of_decide_eq_true asmB
         obtain ⟨ad138, e138, hx138_0, hx138_1, hx138_2, hx138_3, hx138_4, hx138_5, hx138_6, hx138_7, hx138_8, hx138_9, hx138_10, hx138_11⟩ := at_T28 HR0.out x5_1 p138 q138
         obtain rfl : ad137 = ad138 := (by injection e138)
         replace p138 := eq_true p138
         replace q138 := eq_true q138
         have p139 : 0 ≤ (x5_1 : Int) := of_decide_eq_true asmB
         have q139 : x5_1 < (l0.length : Int) := of_decide_eq_true asmB
         obtain ⟨ad139, e139, hx139_0, hx139_1, hx139_2, hx139_3, hx139_4, hx139_5, hx139_6, hx139_7, hx139_8, hx139_9, hx139_10, hx139_11⟩ := at_T28 HR0.out x5_1 p139 q139
         obtain rfl : ad137 = ad139 := (by injection e139)
         replace p139 := eq_true p139
         replace q139 := eq_true q139
         have p140 : 0 ≤ (x5_1 : Int) := of_decide_eq_true asmB
         have q140 : x5_1 < (l0.length : Int) := of_decide_eq_true asmB
         obtain ⟨ad140, e140, hx140_0, hx140_1, hx140_2, hx140_3, hx140_4, hx140_5, hx140_6, hx140_7, hx140_8, hx140_9, hx140_10, hx140_11⟩ := at_T28 HR0.out x5_1 p140 q140
         obtain rfl : ad137 = ad140 := (by injection e140)
         replace p140 := eq_true p140
         replace q140 := eq_true q140
         go_wp2
         go_ret
         exact ⟨rB, by repeat (first | exact Drawn0.refl _ | apply Drawn0.step)⟩
       ·obtain rfl := Option.some.inj H
        have p137 : 0 ≤ (x5_1 : Int) := of_decide_eq_true asmB
        have q137 : x5_1 < (l0.length : Int) := of_decide_eq_true asmB
        obtain ⟨ad137, e137, hx137_0, hx137_1, hx137_2, hx137_3, hx137_4, hx137_5, hx137_6, hx137_7, hx137_8, hx137_9, hx137_10, hx137_11⟩ := at_T28 HR0.out x5_1 p137 q137
        cases e137
        replace p137 := eq_true p137
        replace q137 := eq_true q137
        have p138 : 0 ≤ (x5_1 : Int) := of_decide_eq_true asmB
        have q138 : x5_1 < (l0.length : Int) := of_decide_eq_true asmB
        obtain ⟨ad138, e138, hx138_0, hx138_1, hx138_2, hx138_3, hx138_4, hx138_5, hx138_6, hx138_7, hx138_8, hx138_9, hx138_10, hx138_11⟩ := at_T28 HR0.out x5_1 p138 q138
        obtain rfl : ad137 = ad138 := (by injection e138)
        replace p138 := eq_true p138
        replace q138 := eq_true q138
        have p139 : 0 ≤ (x5_1 : Int) := of_decide_eq_true asmB
        have q139 : x5_1 < (l0.length : Int) := of_decide_eq_true asmB
        obtain ⟨ad139, e139, hx139_0, hx139_1, hx139_2, hx139_3, hx139_4, hx139_5, hx139_6, hx139_7, hx139_8, hx139_9, hx139_10, hx139_11⟩ := at_T28 HR0.out x5_1 p139 q139
        obtain rfl : ad137 = ad139 := (by injection e139)
        replace p139 := eq_true p139
        replace q139 := eq_true q139
        go_wp2
        go_ret
        exact ⟨rB, by repeat (first | exact Drawn0.refl _ | apply Drawn0.step)⟩
      ·obtain rfl := Option.some.inj H
       have p137 : 0 ≤ (x5_1 : Int) := of_decide_eq_true asmB
       have q137 : x5_1 < (l0.length : Int) := of_decide_eq_true asmB
       obtain ⟨ad137, e137, hx137_0, hx137_1, hx137_2, hx137_3, hx137_4, hx137_5, hx137_6, hx137_7, hx137_8, hx137_9, hx137_10, hx137_11⟩ := at_T28 HR0.out x5_1 p137 q137
       cases e137
       replace p137 := eq_true p137
       replace q137 := eq_true q137
       have p138 : 0 ≤ (x5_1 : Int) := of_decide_eq_true asmB
       have q138 : x5_1 < (l0.length : Int) := of_decide_eq_true asmB
       obtain ⟨ad138, e138, hx138_0, hx138_1, hx138_2, hx138_3, hx138_4, hx138_5, hx138_6, hx138_7, hx138_8, hx138_9, hx138_10, hx138_11⟩ := at_T28 HR0.out x5_1 p138 q138
       obtain rfl : ad137 = ad138 := (by injection e138)
       replace p138 := eq_true p138
       replace q138 := eq_true q138
       go_wp2
       go_ret
       exact ⟨rB, by repeat (first | exact Drawn0.refl _ | apply Drawn0.step)⟩
     ·obtain rfl := Option.some.inj H
      have p137 : 0 ≤ (x5_1 : Int) := of_decide_eq_true asmB
      have q137 : x5_1 < (l0.length : Int) := of_decide_eq_true asmB
      obtain ⟨ad137, e137, hx137_0, hx137_1, hx137_2, hx137_3, hx137_4, hx137_5, hx137_6, hx137_7, hx137_8, hx137_9, hx137_10, hx137_11⟩ := at_T28 HR0.out x5_1 p137 q137
      cases e137
      replace p137 := eq_true p137
      replace q137 := eq_true q137
      go_wp2
      go_ret
      exact ⟨rB, by repeat (first | exact Drawn0.refl _ | apply Drawn0.step)⟩
    ·rw [if_neg c4] at H
     exact absurd H (by simp)
   ·obtain rfl := Option.some.inj H
    go_wp2
    go_ret
    exact ⟨rB, by repeat (first | exact Drawn0.refl _ | apply Drawn0.step)⟩

/-! ### laws_szEditS: function 29 -/
def laws_szEditS.f (l0 : List (S25)) (a1 : Int) : Option (Int) := if (wrap64 (a1 - (l0.length : Int))) < 0 then (some (-1)) else (some (wrap64 (a1 - (l0.length : Int))))
set_option maxHeartbeats 8000000 in
set_option maxRecDepth 100000 in
theorem laws_szEditS.calls (A0 : Option Addr) (c0 : Nat) (l0 : List (S25)) (a1 r : Int) (w : World) (hr0 : Kd.C k25 w A0 l0.length l0) (hc0 : l0.length ≤ c0) (h : laws_szEditS.f l0 a1 = some r) :
  Calls Try.prog 29 #[.slice A0 l0.length c0, .int .i64 a1] w fun e w' => e = .returned (.int .i64 r) ∧ Drawn0 w w' := by
 have HR0 := Aside0.mk hr0
 have HC0 := Aside0.mk hc0
 clear hr0 hc0
 have H := h
 clear h
 unfold laws_szEditS.f at H
 replace H := ifD H
 rcases H with ⟨H, -, c3b0⟩ | ⟨H, -, c3b0⟩
 ·obtain rfl := Option.some.inj H
  go_enter Try.func29, Try.ntmps29
  go_wp2
  go_ret
  exact ⟨rB, by repeat (first | exact Drawn0.refl _ | apply Drawn0.step)⟩
 ·obtain rfl := Option.some.inj H
  go_enter Try.func29, Try.ntmps29
  go_wp2
  go_ret
  exact ⟨rB, by repeat (first | exact Drawn0.refl _ | apply Drawn0.step)⟩

/-! ### laws_toEdit: function 14 -/
def laws_toEdit.f (a0_0 a0_1 a0_2 a0_3 a0_4 a0_5 a0_6 a0_7 a0_8 a0_9 a0_10 a0_11 : Int) : Option (Int × Int × Int × Int × Int × Int × Int × Int × Int × Int × Int × Int) := (laws_toLeg.f a0_2 a0_3 a0_4 a0_5 a0_6).bind fun bt152 => ((laws_toLeg.f a0_7 a0_8 a0_9 a0_10 a0_11).bind fun bt157 => (some (a0_0, a0_1, bt152.1, bt152.2.1, bt152.2.2.1, bt152.2.2.2.1, bt152.2.2.2.2, bt157.1, bt157.2.1, bt157.2.2.1, bt157.2.2.2.1, bt157.2.2.2.2)))
set_option maxHeartbeats 8000000 in
set_option maxRecDepth 100000 in
theorem laws_toEdit.calls (a0_0 a0_1 a0_2 a0_3 a0_4 a0_5 a0_6 a0_7 a0_8 a0_9 a0_10 a0_11 r1 r2 r3 r4 r5 r6 r7 r8 r9 r10 r11 r12 : Int) (w : World) (h : laws_toEdit.f a0_0 a0_1 a0_2 a0_3 a0_4 a0_5 a0_6 a0_7 a0_8 a0_9 a0_10 a0_11 = some (r1, r2, r3, r4, r5, r6, r7, r8, r9, r10, r11, r12)) :
  Calls Try.prog 14 #[.agg #[.int .i64 a0_0, .int .i64 a0_1, .int .i64 a0_2, .int .i64 a0_3, .int .i64 a0_4, .int .i64 a0_5, .int .i64 a0_6, .int .i64 a0_7, .int .i64 a0_8, .int .i64 a0_9, .int .i64 a0_10, .int .i64 a0_11]] w fun e w' => e = .returned (.agg #[.int .i64 r1, .int .i64 r2, .int .i64 r3, .int .i64 r4, .int .i64 r5, .int .i64 r6, .int .i64 r7, .int .i64 r8, .int .i64 r9, .int .i64 r10, .int .i64 r11, .int .i64 r12]) ∧ Below w.heap.size w w' := by
 have hu25 := Try.underlying25
 have hu28 := Try.underlying28
 have hu23 := Try.underlying23
 have hu26 := Try.underlying26
 have HB := Aside0.mk (Below.refl w.heap.size w)
 have H := h
 clear h
 unfold laws_toEdit.f at H
 replace H := Option.bind_eq_some_iff.mp H
 obtain ⟨⟨t152, t153, t154, t155, t156⟩, A20, H⟩ := H
 replace H : ((laws_toLeg.f a0_7 a0_8 a0_9 a0_10 a0_11).bind fun bt157 => (some (a0_0, a0_1, t152, t153, t154, t155, t156, bt157.1, bt157.2.1, bt157.2.2.1, bt157.2.2.2.1, bt157.2.2.2.2))) = some (r1, r2, r3, r4, r5, r6, r7, r8, r9, r10, r11, r12) := H
 have A2 := Aside0.mk A20
 clear A20
 replace H := Option.bind_eq_some_iff.mp H
 obtain ⟨⟨t157, t158, t159, t160, t161⟩, A30, H⟩ := H
 replace H : (some (a0_0, a0_1, t152, t153, t154, t155, t156, t157, t158, t159, t160, t161)) = some (r1, r2, r3, r4, r5, r6, r7, r8, r9, r10, r11, r12) := H
 have A3 := Aside0.mk A30
 clear A30
 simp only [Option.some.injEq, Prod.mk.injEq] at H
 obtain ⟨rfl, rfl, rfl, rfl, rfl, rfl, rfl, rfl, rfl, rfl, rfl, rfl⟩ := H
 go_enter Try.func14, Try.ntmps14
 go_wp2_with (first | ((with_reducible refine gD 1 ?_); refine bxE 1 25 #[.int .i64 a0_0, .int .i64 a0_1, .int .i64 a0_2, .int .i64 a0_3, .int .i64 a0_4, .int .i64 a0_5, .int .i64 a0_6, .int .i64 a0_7, .int .i64 a0_8, .int .i64 a0_9, .int .i64 a0_10, .int .i64 a0_11] fun gb149 w4 hg hbox hb => ?_; have BK149 := Aside0.mk hbox; have GE149 := gB HB hg; replace HB := uB HB hb; clear hb hbox hg) | ((with_reducible refine gD 2 ?_); refine bxE 2 28 #[.int .i64 0, .int .i64 0, .int .i64 0, .int .i64 0, .int .i64 0, .int .i64 0, .int .i64 0, .int .i64 0, .int .i64 0, .int .i64 0, .int .i64 0, .int .i64 0] fun gb150 w5 hg hbox hb => ?_; have BK150 := Aside0.mk hbox; have GE150 := gB HB hg; have ⟨NB149_150, NB150_149⟩ := nB BK149 hg; replace BK149 := uK BK149 hb; replace HB := uB HB hb; clear hb hbox hg) | ((with_reducible refine gD 3 ?_); refine bxE 3 28 #[.int .i64 0, .int .i64 0, .int .i64 0, .int .i64 0, .int .i64 0, .int .i64 0, .int .i64 0, .int .i64 0, .int .i64 0, .int .i64 0, .int .i64 0, .int .i64 0] fun gb151 w6 hg hbox hb => ?_; have BK151 := Aside0.mk hbox; have GE151 := gB HB hg; have ⟨NB149_151, NB151_149⟩ := nB BK149 hg; have ⟨NB150_151, NB151_150⟩ := nB BK150 hg; replace BK149 := uK BK149 hb; replace BK150 := uK BK150 hb; replace HB := uB HB hb; clear hb hbox hg; have hnb7 := NB149_150.out; have hnc7 := NB150_149.out; have hnb8 := NB149_151.out; have hnc8 := NB151_149.out; have ⟨hcz9_0, hcz9_1, hcz9_2, hcz9_3, hcz9_4, hcz9_5, hcz9_6, hcz9_7, hcz9_8, hcz9_9, hcz9_10, hcz9_11, hfz9_0⟩ := cz12 BK149; have hnb10 := NB151_150.out; have hnc10 := NB150_151.out; have ⟨hcz11_0, hcz11_1, hcz11_2, hcz11_3, hcz11_4, hcz11_5, hcz11_6, hcz11_7, hcz11_8, hcz11_9, hcz11_10, hcz11_11, hfz11_0⟩ := cz12 BK151) | ((with_reducible refine gC 60 ?_); refine lA (some 12) Try.func60 (laws_toLeg.calls a0_2 a0_3 a0_4 a0_5 a0_6 t152 t153 t154 t155 t156 _ A2.out) ?_; intro w12 hb; replace BK149 := uQ BK149 hb #[.int .i64 a0_0, .int .i64 a0_1, .int .i64 a0_2, .int .i64 a0_3, .int .i64 a0_4, .int .i64 a0_5, .int .i64 a0_6, .int .i64 a0_7, .int .i64 a0_8, .int .i64 a0_9, .int .i64 a0_10, .int .i64 a0_11]; replace BK150 := uQ BK150 hb #[.int .i64 0, .int .i64 0, .int .i64 0, .int .i64 0, .int .i64 0, .int .i64 0, .int .i64 0, .int .i64 0, .int .i64 0, .int .i64 0, .int .i64 0, .int .i64 0]; replace BK151 := uQ BK151 hb #[.int .i64 a0_0, .int .i64 a0_1, .int .i64 0, .int .i64 0, .int .i64 0, .int .i64 0, .int .i64 0, .int .i64 0, .int .i64 0, .int .i64 0, .int .i64 0, .int .i64 0]; replace HB := uB HB hb; (try clear hb); have ⟨hcz13_0, hcz13_1, hcz13_2, hcz13_3, hcz13_4, hcz13_5, hcz13_6, hcz13_7, hcz13_8, hcz13_9, hcz13_10, hcz13_11, hfz13_0⟩ := cz12 BK151; have ⟨hcz14_0, hcz14_1, hcz14_2, hcz14_3, hcz14_4, hcz14_5, hcz14_6, hcz14_7, hcz14_8, hcz14_9, hcz14_10, hcz14_11, hfz14_0⟩ := cz12 BK149) | ((with_reducible refine gC 60 ?_); refine lA (some 16) Try.func60 (laws_toLeg.calls a0_7 a0_8 a0_9 a0_10 a0_11 t157 t158 t159 t160 t161 _ A3.out) ?_; intro w15 hb; replace BK149 := uQ BK149 hb #[.int .i64 a0_0, .int .i64 a0_1, .int .i64 a0_2, .int .i64 a0_3, .int .i64 a0_4, .int .i64 a0_5, .int .i64 a0_6, .int .i64 a0_7, .int .i64 a0_8, .int .i64 a0_9, .int .i64 a0_10, .int .i64 a0_11]; replace BK150 := uQ BK150 hb #[.int .i64 0, .int .i64 0, .int .i64 0, .int .i64 0, .int .i64 0, .int .i64 0, .int .i64 0, .int .i64 0, .int .i64 0, .int .i64 0, .int .i64 0, .int .i64 0]; replace BK151 := uQ BK151 hb #[.int .i64 a0_0, .int .i64 a0_1, .int .i64 t152, .int .i64 t153, .int .i64 t154, .int .i64 t155, .int .i64 t156, .int .i64 0, .int .i64 0, .int .i64 0, .int .i64 0, .int .i64 0]; replace HB := uB HB hb; (try clear hb); have ⟨hcz16_0, hcz16_1, hcz16_2, hcz16_3, hcz16_4, hcz16_5, hcz16_6, hcz16_7, hcz16_8, hcz16_9, hcz16_10, hcz16_11, hfz16_0⟩ := cz12 BK151; have ⟨hcz17_0, hcz17_1, hcz17_2, hcz17_3, hcz17_4, hcz17_5, hcz17_6, hcz17_7, hcz17_8, hcz17_9, hcz17_10, hcz17_11, hfz17_0⟩ := cz12 BK150))
 refine bodyPost_ret (results_cell_row rfl _ _ gb150 28 #[.int .i64 a0_0, .int .i64 a0_1, .int .i64 t152, .int .i64 t153, .int .i64 t154, .int .i64 t155, .int .i64 t156, .int .i64 t157, .int .i64 t158, .int .i64 t159, .int .i64 t160, .int .i64 t161] (0, 0) _ rfl (by exact pW BK150) Try.underlying28 rfl (by kernel_rfl)) rfl ?_
 exact ⟨eB, (bW HB)⟩

end Go.Proofs.Ytinelmmnajelaaa.QFnExactUndoEdits
