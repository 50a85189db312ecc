/- Contracts of Go functions that FnSteps reaches: the call computes what the plain function says. No condition. -/
import Derived.Test.YtmfidodcpbochaaGreatQFnStepsx0
namespace Go.Proofs.YtmfidodcpbochaaGreat.QFnSteps
open Go.RowKit Go.Proofs.YtmfidodcpbochaaGreatW.PrintWords Go.Proofs.YtmfidodcpbochaaGreatW.PrintLast Go.Proofs.YtmfidodcpbochaaGreatW.PrintMore
attribute [local go_sem] max2_int min2_int max_two min_two max_three min_three max_four min_four   -- for this text's walks alone
set_option linter.unusedVariables false
set_option linter.unusedSimpArgs false

-- NOT PRINTED: function 45 (slices_ContainsFunc_int_int)

/-! ### slices_Index_int_int: function 93 -/
def slices_Index_int_int.l0 : Nat → List Int → Int → Int → Int → Option (Int)
 | 0, _, _, _, _ => none
 | k + 1, x0, x1, x7, x8 => if x8 < x7 then (if 0 ≤ x8 then (if x8 < (x0.length : Int) then (if x1 = (rd x0 x8) then (some x8) else (slices_Index_int_int.l0 k x0 x1 x7 (wrap64 (x8 + 1)))) else (none)) else (none)) else (some (-1))
def slices_Index_int_int.f (k : Nat) (l0 : List Int) (a1 : Int) : Option (Int) := slices_Index_int_int.l0 k l0 a1 (l0.length : Int) 0
theorem slices_Index_int_int.mono_l : ∀ k, (∀ y0 y1 y2 y3, LeO (slices_Index_int_int.l0 k y0 y1 y2 y3) (slices_Index_int_int.l0 (k + 1) y0 y1 y2 y3))
 | 0 => fun _ _ _ _ r h => by simp [slices_Index_int_int.l0] at h
 | k + 1 => by
  have ih0 := slices_Index_int_int.mono_l k
  ·intro y0 y1 y2 y3
   unfold slices_Index_int_int.l0
   repeat' with_reducible first | apply ih0 | exact LeO.refl _ | exact LeO.none _ | refine LeO.ite ?_ ?_ | refine LeO.bind ?_ (fun _ => ?_)
theorem slices_Index_int_int.mono : ∀ a0 a1 k, LeO (slices_Index_int_int.f k a0 a1) (slices_Index_int_int.f (k + 1) a0 a1) := by
 intro a0 a1 k
 have ih0 := slices_Index_int_int.mono_l k
 unfold slices_Index_int_int.f
 repeat' with_reducible first | apply ih0 | exact LeO.refl _ | exact LeO.none _ | refine LeO.ite ?_ ?_ | refine LeO.bind ?_ (fun _ => ?_)
set_option maxHeartbeats 8000000 in
set_option maxRecDepth 100000 in
theorem slices_Index_int_int.calls (k : Nat) (A0 : Option Addr) (c0 : Nat) (l0 : List Int) (a1 r : Int) (w : World) (hr0 : Kd.C (Kd.int .i64) w A0 l0.length l0) (hc0 : l0.length ≤ c0) (h : slices_Index_int_int.f k l0 a1 = some r) :
 Calls Tryz.prog 93 #[.slice A0 l0.length c0, .int .i64 a1] w fun e w' => e = .returned (.int .i64 r) ∧ Drawn0 w w' := by
 have HR0 := Aside0.mk hr0
 have HC0 := Aside0.mk hc0
 clear hr0 hc0
 have H := h
 clear h
 unfold slices_Index_int_int.f at H
 have H' := Aside0.mk H
 clear H
 go_enter Tryz.func93, Tryz.ntmps93
 go_wp2
 go_loopg [8] k (fun kq v8 w' => ∃ (x8_1 : Int), v8 = .int .i64 x8_1 ∧ Aside0 (slices_Index_int_int.l0 kq l0 a1 (l0.length : Int) x8_1 = some r) ∧ Aside0 (kq ≤ k) ∧ Drawn0 w w')
 case atStart => exact ⟨(0), rB, H', ⟨Nat.le_refl _⟩, by repeat (first | exact Drawn0.refl _ | apply Drawn0.step)⟩
 case round =>
  clear H'
  obtain ⟨x8_1, rfl, HA, HK1, ⟨m1, rfl⟩⟩ := hrel
  cases gk with
  | zero => exact absurd HA.out (by simp [slices_Index_int_int.l0])
  | succ k1 =>
   have H := HA.out
   clear HA
   simp only [slices_Index_int_int.l0] at H
   replace H := ifD H
   rcases H with ⟨H, -, c3b0⟩ | ⟨H, -, c3b0⟩
   ·replace H := zN H
    obtain ⟨c4b0, H⟩ := H
    replace H := zN H
    obtain ⟨c5b0, H⟩ := H
    replace H := ifI H
    rcases H with ⟨H, -, c6b0, c6b1⟩ | ⟨H, c6, c6b0, c6b1⟩
    ·obtain rfl := Option.some.inj H
     have p533 : 0 ≤ (x8_1 : Int) := of_decide_eq_true asmB
     have q533 : x8_1 < (l0.length : Int) := of_decide_eq_true asmB
     obtain ⟨ad533, e533, hx533_0⟩ := Kd.at_int HR0.out x8_1 p533 q533
     cases e533
     replace p533 := eq_true p533
     replace q533 := eq_true q533
     go_wp2
     go_ret
     exact ⟨rB, by repeat (first | exact Drawn0.refl _ | apply Drawn0.step)⟩
    ·have H' := Aside0.mk H
     clear H
     have p533 : 0 ≤ (x8_1 : Int) := of_decide_eq_true asmB
     have q533 : x8_1 < (l0.length : Int) := of_decide_eq_true asmB
     obtain ⟨ad533, e533, hx533_0⟩ := Kd.at_int HR0.out x8_1 p533 q533
     cases e533
     replace p533 := eq_true p533
     replace q533 := eq_true q533
     go_wp2
     go_roundg k1
     case measure => have := HK1.out; omega
     case rel => exact ⟨(wrap64 (x8_1 + 1)), rB, H', ⟨by have := HK1.out; omega⟩, by repeat (first | exact Drawn0.refl _ | apply Drawn0.step)⟩
   ·obtain rfl := Option.some.inj H
    go_wp2
    go_ret
    exact ⟨rB, by repeat (first | exact Drawn0.refl _ | apply Drawn0.step)⟩

/-! ### slices_Contains_int_int: function 68 -/
def slices_Contains_int_int.f (k : Nat) (l0 : List Int) (a1 : Int) : Option (Bool) := (slices_Index_int_int.f k l0 a1).bind fun t534 => (some (decide (t534 ≥ 0)))
theorem slices_Contains_int_int.mono : ∀ a0 a1 k, LeO (slices_Contains_int_int.f k a0 a1) (slices_Contains_int_int.f (k + 1) a0 a1) := by
 intro a0 a1 k
 unfold slices_Contains_int_int.f
 repeat' with_reducible first | apply slices_Index_int_int.mono | exact LeO.refl _ | exact LeO.none _ | refine LeO.ite ?_ ?_ | refine LeO.bind ?_ (fun _ => ?_)
set_option maxHeartbeats 8000000 in
set_option maxRecDepth 100000 in
theorem slices_Contains_int_int.calls (k : Nat) (A0 : Option Addr) (c0 : Nat) (l0 : List Int) (a1 : Int) (r : Bool) (w : World) (hr0 : Kd.C (Kd.int .i64) w A0 l0.length l0) (hc0 : l0.length ≤ c0) (h : slices_Contains_int_int.f k l0 a1 = some r) :
 Calls Tryz.prog 68 #[.slice A0 l0.length c0, .int .i64 a1] w fun e w' => e = .returned (.bool r) ∧ Drawn0 w w' := by
 have HR0 := Aside0.mk hr0
 have HC0 := Aside0.mk hc0
 clear hr0 hc0
 have H := h
 clear h
 unfold slices_Contains_int_int.f at H
 replace H := bA H
 obtain ⟨t534, A3, H⟩ := H
 obtain rfl := Option.some.inj H
 go_enter Tryz.func68, Tryz.ntmps68
 go_wp2_with (first | ((with_reducible refine gC 93 ?_); refine lA (some 7) Tryz.func93 (slices_Index_int_int.calls k _ _ l0 a1 t534 _ ?side1 ?side2 A3.out) ?_; (case side1 => exact zC HR0); (case side2 => exact HC0.out); rintro _ ⟨nd, rfl⟩))
 go_ret
 exact ⟨rB, by repeat (first | exact Drawn0.refl _ | apply Drawn0.step)⟩

/-! ### impl_has: function 47 -/
def impl_has.f (k : Nat) (l0 : List Int) (a1 : Int) : Option (Bool) := (slices_Contains_int_int.f k l0 a1).bind fun t535 => (some t535)
theorem impl_has.mono : ∀ a0 a1 k, LeO (impl_has.f k a0 a1) (impl_has.f (k + 1) a0 a1) := by
 intro a0 a1 k
 unfold impl_has.f
 repeat' with_reducible first | apply slices_Contains_int_int.mono | exact LeO.refl _ | exact LeO.none _ | refine LeO.ite ?_ ?_ | refine LeO.bind ?_ (fun _ => ?_)
set_option maxHeartbeats 8000000 in
set_option maxRecDepth 100000 in
theorem impl_has.calls (k : Nat) (A0 : Option Addr) (c0 : Nat) (l0 : List Int) (a1 : Int) (r : Bool) (w : World) (hr0 : Kd.C (Kd.int .i64) w A0 l0.length l0) (hc0 : l0.length ≤ c0) (h : impl_has.f k l0 a1 = some r) :
 Calls Tryz.prog 47 #[.slice A0 l0.length c0, .int .i64 a1] w fun e w' => e = .returned (.bool r) ∧ Drawn0 w w' := by
 have HR0 := Aside0.mk hr0
 have HC0 := Aside0.mk hc0
 clear hr0 hc0
 have H := h
 clear h
 unfold impl_has.f at H
 replace H := bA H
 obtain ⟨t535, A3, H⟩ := H
 obtain rfl := Option.some.inj H
 go_enter Tryz.func47, Tryz.ntmps47
 go_wp2_with (first | ((with_reducible refine gC 68 ?_); refine lA (some 7) Tryz.func68 (slices_Contains_int_int.calls k _ _ l0 a1 t535 _ ?side1 ?side2 A3.out) ?_; (case side1 => exact zC HR0); (case side2 => exact HC0.out); rintro _ ⟨nd, rfl⟩))
 go_ret
 exact ⟨rB, by repeat (first | exact Drawn0.refl _ | apply Drawn0.step)⟩

/-! ### impl_reach: function 48 -/
-- calls: none
mutual
def impl_reach.l0 : Nat → List (S32) → List Int → Int → List Bool → Int → Int → Option (List Bool)
 | 0, _, _, _, _, _, _ => none
 | k + 1, x0, x1, x3, x9, x15, x16 => if x16 < x15 then (impl_reach.l1 k x0 x1 x3 x9 x15 x16 x0 (x0.length : Int) 0) else (some x9)
def impl_reach.l1 : Nat → List (S32) → List Int → Int → List Bool → Int → Int → List (S32) → Int → Int → Option (List Bool)
 | 0, _, _, _, _, _, _, _, _, _ => none
 | k + 1, x0, x1, x3, x9, x15, x16, x18, x19, x20 => if x20 < x19 then (if 0 ≤ x20 then (if x20 < (x18.length : Int) then (if x20 < (x1.length : Int) then (if (rd x1 x20) ≥ x3 then (if 0 ≤ ((rd_T32 x18 x20).f0) then (if ((rd_T32 x18 x20).f0) < (x9.length : Int) then (if 0 ≤ ((rd_T32 x18 x20).f1) then (if ((rd_T32 x18 x20).f1) < (x9.length : Int) then (if ((rdOf false x9 ((rd_T32 x18 x20).f0)) != (rdOf false x9 ((rd_T32 x18 x20).f1))) = true then (impl_reach.l1 k x0 x1 x3 ((x9.set (((rd_T32 x18 x20).f0) : Int).toNat true).set (((rd_T32 x18 x20).f1) : Int).toNat true) x15 x16 x18 x19 (wrap64 (x20 + 1))) else (impl_reach.l1 k x0 x1 x3 x9 x15 x16 x18 x19 (wrap64 (x20 + 1)))) else (none)) else (none)) else (none)) else (none)) else (impl_reach.l1 k x0 x1 x3 x9 x15 x16 x18 x19 (wrap64 (x20 + 1)))) else (none)) else (none)) else (none)) else (impl_reach.l0 k x0 x1 x3 x9 x15 (wrap64 (x16 + 1)))
end
def impl_reach.f (k : Nat) (l0 : List (S32)) (l1 : List Int) (a2 : Int) (a3 : Int) : Option (List Bool) := (some (List.replicate 8 false : List Bool)).bind fun y220 => (if 0 ≤ a2 then (if a2 < (y220.length : Int) then (impl_reach.l0 k l0 l1 a3 (y220.set (a2 : Int).toNat true) (l0.length : Int) 0) else (none)) else (none))
theorem impl_reach.mono_l : ∀ k, (∀ y0 y1 y2 y3 y4 y5, LeO (impl_reach.l0 k y0 y1 y2 y3 y4 y5) (impl_reach.l0 (k + 1) y0 y1 y2 y3 y4 y5)) ∧ (∀ y0 y1 y2 y3 y4 y5 y6 y7 y8, LeO (impl_reach.l1 k y0 y1 y2 y3 y4 y5 y6 y7 y8) (impl_reach.l1 (k + 1) y0 y1 y2 y3 y4 y5 y6 y7 y8))
 | 0 => ⟨fun _ _ _ _ _ _ r h => by simp [impl_reach.l0] at h, fun _ _ _ _ _ _ _ _ _ r h => by simp [impl_reach.l1] at h⟩
 | k + 1 => by
  obtain ⟨ih0, ih1⟩ := impl_reach.mono_l k
  refine ⟨?_, ?_⟩
  ·intro y0 y1 y2 y3 y4 y5
   unfold impl_reach.l0
   repeat' first
   | (with_reducible exact ih0 _ _ _ _ _ _)
   | (with_reducible exact ih1 _ _ _ _ _ _ _ _ _)
   | (with_reducible exact LeO.refl _)
   | (with_reducible exact LeO.none _)
   | (with_reducible refine LeO.ite ?_ ?_)
   | (with_reducible refine LeO.bind ?_ (fun _ => ?_))
   | exact ih0 _ _ _ _ _ _
   | exact ih1 _ _ _ _ _ _ _ _ _
   | exact LeO.none _
   | refine LeO.ite ?_ ?_
   | refine LeO.bind ?_ (fun _ => ?_)
  ·intro y0 y1 y2 y3 y4 y5 y6 y7 y8
   unfold impl_reach.l1
   repeat' first
   | (with_reducible exact ih0 _ _ _ _ _ _)
   | (with_reducible exact ih1 _ _ _ _ _ _ _ _ _)
   | (with_reducible exact LeO.refl _)
   | (with_reducible exact LeO.none _)
   | (with_reducible refine LeO.ite ?_ ?_)
   | (with_reducible refine LeO.bind ?_ (fun _ => ?_))
   | exact ih0 _ _ _ _ _ _
   | exact ih1 _ _ _ _ _ _ _ _ _
   | exact LeO.none _
   | refine LeO.ite ?_ ?_
   | refine LeO.bind ?_ (fun _ => ?_)
theorem impl_reach.mono : ∀ a0 a1 a2 a3 k, LeO (impl_reach.f k a0 a1 a2 a3) (impl_reach.f (k + 1) a0 a1 a2 a3) := by
 intro a0 a1 a2 a3 k
 obtain ⟨ih0, ih1⟩ := impl_reach.mono_l k
 unfold impl_reach.f
 repeat' first
  | (with_reducible exact ih0 _ _ _ _ _ _)
  | (with_reducible exact ih1 _ _ _ _ _ _ _ _ _)
  | (with_reducible exact LeO.refl _)
  | (with_reducible exact LeO.none _)
  | (with_reducible refine LeO.ite ?_ ?_)
  | (with_reducible refine LeO.bind ?_ (fun _ => ?_))
  | exact ih0 _ _ _ _ _ _
  | exact ih1 _ _ _ _ _ _ _ _ _
  | exact LeO.none _
  | refine LeO.ite ?_ ?_
  | refine LeO.bind ?_ (fun _ => ?_)
theorem list8 {α : Type} (l : List α) (h : l.length = 8) : ∃ a b c d e f g i, l = [a, b, c, d, e, f, g, i] := by
 match l, h with
 | [a, b, c, d, e, f, g, i], _ => exact ⟨a, b, c, d, e, f, g, i, rfl⟩
def arrV (S : List Bool) : Value := .agg (S.map Value.bool).toArray
set_option maxHeartbeats 8000000 in
set_option maxRecDepth 100000 in
theorem impl_reach.calls (k : Nat) (A0 : Option Addr) (c0 : Nat) (l0 : List (S32)) (A1 : Option Addr) (c1 : Nat) (l1 : List Int) (a2 : Int) (a3 : Int) (r : List Bool) (w_ : World) (hr0 : Kd.C k32 w_ A0 l0.length l0) (hc0 : l0.length ≤ c0) (hr1 : Kd.C (Kd.int .i64) w_ A1 l1.length l1) (hc1 : l1.length ≤ c1) (h : impl_reach.f k l0 l1 a2 a3 = some r) :
 Calls Tryz.prog 48 #[.slice A0 l0.length c0, .slice A1 l1.length c1, .int .i64 a2, .int .i64 a3] w_ fun e w' => e = .returned (arrV r) ∧ r.length = 8 ∧ Below w_.heap.size w_ w' := by
 obtain ⟨w, hw_⟩ : ∃ W : World, W = w_.alloc (.cells #[.bool false, .bool false, .bool false, .bool false, .bool false, .bool false, .bool false, .bool false] 64 (0, 0)) := ⟨_, rfl⟩
 have hBA_ : Below w_.heap.size w_ w := by rw [hw_]; exact below_alloc (Below.refl _ _) _
 have hX_ : w.heap[w_.heap.size]? = some (.cells #[.bool false, .bool false, .bool false, .bool false, .bool false, .bool false, .bool false, .bool false] 64 (0, 0)) := by rw [hw_]; exact blk_new _ _
 replace hr0 := Kd.C_below hr0 hBA_
 replace hr1 := Kd.C_below hr1 hBA_
 have HBA := Aside0.mk hBA_
 clear hBA_
 have HX8 := Aside0.mk hX_
 clear hX_
 have hu32 := Tryz.underlying32
 have HR0 := Aside0.mk hr0
 have HC0 := Aside0.mk hc0
 clear hr0 hc0
 have HR1 := Aside0.mk hr1
 have HC1 := Aside0.mk hc1
 clear hr1 hc1
 have HB := Aside0.mk (Below.refl w.heap.size w)
 have H : ((some (List.replicate 8 false : List Bool)).bind fun y220 => (if 0 ≤ a2 then (if a2 < (y220.length : Int) then (impl_reach.l0 k l0 l1 a3 (y220.set (a2 : Int).toNat true) (l0.length : Int) 0) else (none)) else (none))) = some r := h
 clear h
 replace H := zS H
 obtain ⟨y220, Ny220, H⟩ := H
 replace H := zN H
 obtain ⟨c5b0, H⟩ := H
 replace H := zN H
 obtain ⟨c6b0, H⟩ := H
 obtain ⟨y223, hy223⟩ : ∃ y_ : List Bool, y_ = (y220.set (a2 : Int).toNat true) := ⟨_, rfl⟩
 replace H : (impl_reach.l0 k l0 l1 a3 y223 (l0.length : Int) 0) = some r := by first | (rw [hy223]; with_reducible exact H) | (have H2_ := (Option.bind_some _ _).symm.trans H; rw [hy223]; with_reducible exact H2_) | (have H2_ := (Option.bind_some _ _).symm.trans H; with_reducible exact H2_) | with_reducible exact H | (rw [hy223]; exact H) | exact H
 have Ny223 := Aside0.mk hy223
 clear hy223
 have H' := Aside0.mk H
 clear H
 go_enter Tryz.func48, Tryz.ntmps48
 go_upto_region 1 with (fail)
 rw [← hw_]
 clear hw_
 obtain ⟨g8, hg8⟩ : ∃ g : Nat, g = w_.heap.size := ⟨_, rfl⟩
 rw [← hg8] at HX8 ⊢
 have HG8 := Aside0.mk (show w_.heap.size ≤ g8 from Nat.le_of_eq hg8.symm)
 clear hg8
 go_upto_region 2 with (fail)
 obtain ⟨go7, hgo7⟩ : ∃ g : Nat, g = w.heap.size := ⟨_, rfl⟩
 obtain ⟨w8, hw8⟩ : ∃ W : World, W = w.alloc (.cells #[.bool false, .bool false, .bool false, .bool false, .bool false, .bool false, .bool false, .bool false] 64 (0, 0)) := ⟨_, rfl⟩
 rw [← hw8, ← hgo7]
 have HO222 := Aside0.mk (show Kd.R Kd.bool 64 w8 w.heap.size (fun _ => True) (.slice (some ⟨go7, 0, none⟩) y220.length 8) y220 from by rw [Ny220.out, hw8, hgo7]; exact Kd.R_of_own ⟨rfl, .inr ⟨w.heap.size, 8, _, rfl, Nat.le_refl _, blk_new w _, by decide, by decide, rfl, rfl⟩⟩ (fun _ _ => trivial))
 have n0_ := Aside0.mk (show Below w.heap.size w w8 from by rw [hw8]; exact below_alloc (Below.refl _ _) _)
 clear HB
 have HB := n0_
 clear n0_
 have GB7 := Aside0.mk (show w.heap.size ≤ go7 from Nat.le_of_eq hgo7.symm)
 have HN7 := Aside0.mk (show g8 ≠ go7 from by have := blk_lt HX8.out; omega)
 clear hw8 hgo7
 have hy8 : y220.length = 8 := by rw [Ny220.out]; rfl
 have p7 : 0 ≤ a2 := of_decide_eq_true c5b0
 have q7 : a2 < (y220.length : Int) := of_decide_eq_true c6b0
 obtain ⟨hx7, hf7⟩ := Kd.R_cell false HO222.out a2 p7 (by omega)
 have hP7 := Aside0.mk (Kd.R_put HO222.out a2 true)
 have q7_ : (a2 < 8) = True := eq_true (by rw [hy8] at q7; exact q7)
 replace p7 := eq_true p7
 go_upto_region 3 with (fail)
 have n0_ := Aside0.mk (show Kd.R Kd.bool 64 (w8.setCell ⟨go7, a2.toNat, none⟩ (.bool true)) w.heap.size (fun _ => True) (.slice (some ⟨go7, 0, none⟩) y220.length 8) y223 from by rw [Ny223.out]; exact hP7.out.1)
 have n1_ := Aside0.mk (show Below w.heap.size w (w8.setCell ⟨go7, a2.toNat, none⟩ (.bool true)) from below_set HB.out GB7.out)
 clear HO222 HB hP7
 have HO222 := n0_
 have HB := n1_
 clear n0_ n1_ hx7 hf7 p7 q7 q7_
 generalize w8.setCell ⟨go7, a2.toNat, none⟩ (.bool true) = w9 at HO222 HB ⊢
 go_wp2
 go_loopg [16] k (fun kq v16 w' => ∃ (x9_1 : List Bool) (x16_1 : Int), v16 = .int .i64 x16_1 ∧ Aside0 (impl_reach.l0 kq l0 l1 a3 x9_1 (l0.length : Int) x16_1 = some r) ∧ Aside0 (kq ≤ k) ∧ Aside0 (Kd.R Kd.bool 64 w' w.heap.size (fun _ => True) (.slice (some ⟨go7, 0, none⟩) y220.length 8) x9_1) ∧ Aside0 (Below w.heap.size w w'))
 case atStart => exact ⟨(y223), (0), (by first | rfl | (simp; done) | (simp [*]; done)), H', ⟨Nat.le_refl _⟩, ⟨upR HO222.out⟩, ⟨(upB HB.out)⟩⟩
 case round =>
  clear H'
  try clear c1
  try clear c5
  try clear c5b0
  try clear c6
  try clear c6b0
  obtain ⟨x9_1, x16_1, rfl, HA, HK1, HO_9, HB⟩ := hrel
  have HL9 := Aside0.mk (show x9_1.length = 8 from by have e_ := (Kd.R_reads' HO_9.out).1; first | omega | (rw [hy8] at e_; omega))
  have hl9_1 := (Kd.R_reads' HO_9.out).1
  rw [hl9_1] at HO_9
  (try simp only [hl9_1])
  cases gk with
  | zero => exact absurd HA.out (by simp [impl_reach.l0])
  | succ k1 =>
   have H := HA.out
   clear HA
   simp only [impl_reach.l0] at H
   by_cases c12 : x16_1 < (l0.length : Int)
   ·rw [if_pos c12] at H
    have c12b0 : decide (x16_1 < (l0.length : Int)) = true := decide_eq_true c12
    clear c12
    have H' := Aside0.mk H
    clear H
    go_wp2
    go_loopg [20] k1 (fun kq v20 w' => ∃ (x9_2 : List Bool) (x20_2 : Int), v20 = .int .i64 x20_2 ∧ Aside0 (impl_reach.l1 kq l0 l1 a3 x9_2 (l0.length : Int) x16_1 l0 (l0.length : Int) x20_2 = some r) ∧ Aside0 (kq ≤ k1) ∧ Aside0 (Kd.R Kd.bool 64 w' w.heap.size (fun _ => True) (.slice (some ⟨go7, 0, none⟩) x9_1.length 8) x9_2) ∧ Aside0 (Below w.heap.size w w'))
    case atStart => exact ⟨(x9_1), (0), (by first | rfl | (simp; done) | (simp [*]; done)), H', ⟨Nat.le_refl _⟩, ⟨by (try simp only [hl9_1]); (with_reducible repeat (first | apply Kd.R_alloc | apply Kd.R_drewN | apply Kd.R_drew)); exact HO_9.out⟩, ⟨(upB HB.out)⟩⟩
    case round =>
     clear H'
     try clear c1
     try clear c5
     try clear c5b0
     try clear c6
     try clear c6b0
     try clear c12
     try clear c12b0
     obtain ⟨x9_2, x20_2, rfl, HA, HK2, HO_9, HB⟩ := hrel
     have HL8 := Aside0.mk (show x9_2.length = 8 from by have e_ := (Kd.R_reads' HO_9.out).1; have e2_ := HL9.out; omega)
     have hl9_2 := (Kd.R_reads' HO_9.out).1
     rw [hl9_2] at HO_9
     (try simp only [hl9_2])
     cases gk with
     | zero => exact absurd HA.out (by simp [impl_reach.l1])
     | succ k2 =>
      have H := HA.out
      clear HA
      simp only [impl_reach.l1] at H
      by_cases c13 : x20_2 < (l0.length : Int)
      ·rw [if_pos c13] at H
       have c13b0 : decide (x20_2 < (l0.length : Int)) = true := decide_eq_true c13
       clear c13
       replace H := zN H
       obtain ⟨c14b0, H⟩ := H
       replace H := zN H
       obtain ⟨c15b0, H⟩ := H
       replace H := zN H
       obtain ⟨c16b0, H⟩ := H
       by_cases c17 : (rd l1 x20_2) ≥ a3
       ·rw [if_pos c17] at H
        have c17b0 : decide (a3 ≤ (rd l1 x20_2)) = true := decide_eq_true c17
        clear c17
        replace H := zN H
        obtain ⟨c18b0, H⟩ := H
        replace H := zN H
        obtain ⟨c19b0, H⟩ := H
        replace H := zN H
        obtain ⟨c20b0, H⟩ := H
        replace H := zN H
        obtain ⟨c21b0, H⟩ := H
        by_cases c22 : ((rdOf false x9_2 ((rd_T32 l0 x20_2).f0)) != (rdOf false x9_2 ((rd_T32 l0 x20_2).f1))) = true
        ·rw [if_pos c22] at H
         have c22b0 : ((rdOf false x9_2 ((rd_T32 l0 x20_2).f0)) != (rdOf false x9_2 ((rd_T32 l0 x20_2).f1))) = true := c22
         (try (have c22b1 : decide ((rdOf false x9_2 ((rd_T32 l0 x20_2).f0)) = (rdOf false x9_2 ((rd_T32 l0 x20_2).f1))) = false := by simpa using c22))
         (try (have c22b2 : ((rdOf false x9_2 ((rd_T32 l0 x20_2).f0)) == (rdOf false x9_2 ((rd_T32 l0 x20_2).f1))) = false := by simpa using c22))
         (try (have c22b3 : ¬ ((rdOf false x9_2 ((rd_T32 l0 x20_2).f0)) = (rdOf false x9_2 ((rd_T32 l0 x20_2).f1))) := by simpa using c22))
         clear c22
         obtain ⟨y229, hy229⟩ : ∃ y_ : List Bool, y_ = (x9_2.set (((rd_T32 l0 x20_2).f0) : Int).toNat true) := ⟨_, rfl⟩
         replace H : (impl_reach.l1 k2 l0 l1 a3 (y229.set (((rd_T32 l0 x20_2).f1) : Int).toNat true) (l0.length : Int) x16_1 l0 (l0.length : Int) (wrap64 (x20_2 + 1))) = some r := by first | (rw [hy229]; with_reducible exact H) | (have H2_ := (Option.bind_some _ _).symm.trans H; rw [hy229]; with_reducible exact H2_) | (have H2_ := (Option.bind_some _ _).symm.trans H; with_reducible exact H2_) | with_reducible exact H | (rw [hy229]; exact H) | exact H
         have Ny229 := Aside0.mk hy229
         clear hy229
         obtain ⟨y230, hy230⟩ : ∃ y_ : List Bool, y_ = (y229.set (((rd_T32 l0 x20_2).f1) : Int).toNat true) := ⟨_, rfl⟩
         replace H : (impl_reach.l1 k2 l0 l1 a3 y230 (l0.length : Int) x16_1 l0 (l0.length : Int) (wrap64 (x20_2 + 1))) = some r := by first | (rw [hy230]; with_reducible exact H) | (have H2_ := (Option.bind_some _ _).symm.trans H; rw [hy230]; with_reducible exact H2_) | (have H2_ := (Option.bind_some _ _).symm.trans H; with_reducible exact H2_) | with_reducible exact H | (rw [hy230]; exact H) | exact H
         have Ny230 := Aside0.mk hy230
         clear hy230
         have H' := Aside0.mk H
         clear H
         obtain ⟨ad224, e224, hx224_0, hx224_1, hx224_2, hx224_3, hx224_4, p224, q224⟩ := zT HR0 HB x20_2
         cases e224
         go_wp2_with (first | ((with_reducible refine gate_dst (N := 11) rfl ?_); refine box_event ?hg (N := 11) ?hd (cs := #[.int .i64 0, .int .i64 0, .int .i64 0, .int .i64 0, .int .i64 0]) (t := 32) ?hr ?_; (case hd => rfl); (case hg => rfl); (case hr => first | (go_simp; done) | (go_simp; rfl)); intro gb225 hg w25 hbox hb; have n0_ := Aside0.mk (Kd.R_below (upR HO_9.out) hb); have n1_ := Aside0.mk (below_step (upB HB.out) hb); have n2_ := Aside0.mk (hbox); have n3_ := Aside0.mk ((by rw [hg]; exact (below_size (upB HB.out)) : w.heap.size ≤ gb225)); have n4_ := Aside0.mk ((by rw [hg]; exact (below_size (upB HB.out)) : w.heap.size ≤ gb225)); clear HO_9; clear HB; have HO_9 := n0_; have HB := n1_; have BK225 := n2_; have GW225 := n3_; have GE225 := n4_; clear n0_ n1_ n2_ n3_ n4_; clear hb hbox hg; have hcz26_0 := ci BK225.out 0 0 rfl; have hcz26_1 := ci BK225.out 1 0 rfl; have hcz26_2 := ci BK225.out 2 0 rfl; have hcz26_3 := ci BK225.out 3 0 rfl; have hcz26_4 := ci BK225.out 4 0 rfl; have hfz26_0 := fun j_ : Nat => blk_frozen BK225.out j_) | ((with_reducible refine gate_store (t := 32) (p := 11) rfl ?_); (try (rw [drewN_self w25]; generalize hq_ : World.drewN w25 _ = w25; have n0_ := Aside0.mk (Kd.R_at hq_ HO_9.out); have n1_ := Aside0.mk (blk_at hq_ BK225.out); have n2_ := Aside0.mk (below_at hq_ HB.out); clear hq_ HO_9 BK225 HB; have HO_9 := n0_; have BK225 := n1_; have HB := n2_; clear n0_ n1_ n2_)); refine store_event (t := 32) (p := 11) (v := ?vo_w27) (w1 := (((((w25.setCell ⟨gb225, 0, none⟩ (.int .i64 ((rd_T32 l0 x20_2).f0))).setCell ⟨gb225, 1, none⟩ (.int .i64 ((rd_T32 l0 x20_2).f1))).setCell ⟨gb225, 2, none⟩ (.int .i64 ((rd_T32 l0 x20_2).f2))).setCell ⟨gb225, 3, none⟩ (.int .i64 ((rd_T32 l0 x20_2).f3))).setCell ⟨gb225, 4, none⟩ (.int .i64 ((rd_T32 l0 x20_2).f4)))) ?hg ?ho ?hn ?hr ?_; (case ho => rfl); (case hg => rfl); (case hn => rfl); (case hr => first | (go_simp; done) | (go_simp; rfl)); intro w27 hw; have n0_ : Aside0 (Kd.R Kd.bool 64 w27 w.heap.size (fun _ => True) (.slice (some ⟨go7, 0, none⟩) x9_2.length 8) x9_2) := ⟨(by rw [hw]; exact (Kd.R_mono (zF (Kd.R_types HO_9.out BK225.out (by decide))) (fun _ hk => trivial)))⟩; have n1_ : Aside0 (w27.heap[gb225]? = some (.cells #[.int .i64 ((rd_T32 l0 x20_2).f0), .int .i64 ((rd_T32 l0 x20_2).f1), .int .i64 ((rd_T32 l0 x20_2).f2), .int .i64 ((rd_T32 l0 x20_2).f3), .int .i64 ((rd_T32 l0 x20_2).f4)] 32 (0, 0))) := ⟨(by rw [hw]; exact (by (with_reducible repeat (first | refine blk_drewN ?_ _ | refine blk_drew ?_ | refine blk_alloc ?_ _)); refine blk_put (cs := #[.int .i64 ((rd_T32 l0 x20_2).f0), .int .i64 ((rd_T32 l0 x20_2).f1), .int .i64 ((rd_T32 l0 x20_2).f2), .int .i64 ((rd_T32 l0 x20_2).f3), .int .i64 0]) ?_ 4 _ rfl; (with_reducible repeat (first | refine blk_drewN ?_ _ | refine blk_drew ?_ | refine blk_alloc ?_ _)); refine blk_put (cs := #[.int .i64 ((rd_T32 l0 x20_2).f0), .int .i64 ((rd_T32 l0 x20_2).f1), .int .i64 ((rd_T32 l0 x20_2).f2), .int .i64 0, .int .i64 0]) ?_ 3 _ rfl; (with_reducible repeat (first | refine blk_drewN ?_ _ | refine blk_drew ?_ | refine blk_alloc ?_ _)); refine blk_put (cs := #[.int .i64 ((rd_T32 l0 x20_2).f0), .int .i64 ((rd_T32 l0 x20_2).f1), .int .i64 0, .int .i64 0, .int .i64 0]) ?_ 2 _ rfl; (with_reducible repeat (first | refine blk_drewN ?_ _ | refine blk_drew ?_ | refine blk_alloc ?_ _)); refine blk_put (cs := #[.int .i64 ((rd_T32 l0 x20_2).f0), .int .i64 0, .int .i64 0, .int .i64 0, .int .i64 0]) ?_ 1 _ rfl; (with_reducible repeat (first | refine blk_drewN ?_ _ | refine blk_drew ?_ | refine blk_alloc ?_ _)); refine blk_put (cs := #[.int .i64 0, .int .i64 0, .int .i64 0, .int .i64 0, .int .i64 0]) ?_ 0 _ rfl; (with_reducible repeat (first | refine blk_drewN ?_ _ | refine blk_drew ?_ | refine blk_alloc ?_ _)); exact BK225.out))⟩; have n2_ : Aside0 (Below w.heap.size w w27) := ⟨(by rw [hw]; exact (upB1 HB.out GE225.out))⟩; clear hw; clear HO_9; clear BK225; clear HB; have HO_9 := n0_; have BK225 := n1_; have HB := n2_; clear n0_ n1_ n2_; obtain ⟨ad226, e226, hx226_0, p226, q226⟩ := zi HR1 HB x20_2; cases e226; have hcz28_0 := ci BK225.out 0 ((rd_T32 l0 x20_2).f0) rfl; have hcz28_1 := ci BK225.out 1 ((rd_T32 l0 x20_2).f1) rfl; have hcz28_2 := ci BK225.out 2 ((rd_T32 l0 x20_2).f2) rfl; have hcz28_3 := ci BK225.out 3 ((rd_T32 l0 x20_2).f3) rfl; have hcz28_4 := ci BK225.out 4 ((rd_T32 l0 x20_2).f4) rfl; have hfz28_0 := fun j_ : Nat => blk_frozen BK225.out j_; have e8_ : (x9_2.length : Int) = 8 := (by have := HL8.out; omega); have p227 : 0 ≤ (((rd_T32 l0 x20_2).f0) : Int) := of_decide_eq_true asmB; have q227 : ((rd_T32 l0 x20_2).f0) < (x9_2.length : Int) := of_decide_eq_true asmB; obtain ⟨ad227, e227, hx227_0⟩ := Kd.at_bool (Kd.R_reads' HO_9.out).2.2 ((rd_T32 l0 x20_2).f0) p227 q227; obtain rfl : (⟨go7, 0, none⟩ : Addr) = ad227 := (by injection e227); (first | simp only [add_plain] at hx227_0 | simp only [add_at] at hx227_0 | simp only [Addr.add, Nat.zero_add] at hx227_0 | skip); replace p227 := eq_true p227; rw [e8_] at q227; replace q227 := eq_true q227; have p228 : 0 ≤ (((rd_T32 l0 x20_2).f1) : Int) := of_decide_eq_true asmB; have q228 : ((rd_T32 l0 x20_2).f1) < (x9_2.length : Int) := of_decide_eq_true asmB; obtain ⟨ad228, e228, hx228_0⟩ := Kd.at_bool (Kd.R_reads' HO_9.out).2.2 ((rd_T32 l0 x20_2).f1) p228 q228; obtain rfl : (⟨go7, 0, none⟩ : Addr) = ad228 := (by injection e228); (first | simp only [add_plain] at hx228_0 | simp only [add_at] at hx228_0 | simp only [Addr.add, Nat.zero_add] at hx228_0 | skip); replace p228 := eq_true p228; rw [e8_] at q228; replace q228 := eq_true q228))
         repeat (go_quiet (first | ((with_reducible refine gate_dst (N := 11) rfl ?_); refine box_event ?hg (N := 11) ?hd (cs := #[.int .i64 0, .int .i64 0, .int .i64 0, .int .i64 0, .int .i64 0]) (t := 32) ?hr ?_; (case hd => rfl); (case hg => rfl); (case hr => first | (go_simp; done) | (go_simp; rfl)); intro gb225 hg w25 hbox hb; have n0_ := Aside0.mk (Kd.R_below (upR HO_9.out) hb); have n1_ := Aside0.mk (below_step (upB HB.out) hb); have n2_ := Aside0.mk (hbox); have n3_ := Aside0.mk ((by rw [hg]; exact (below_size (upB HB.out)) : w.heap.size ≤ gb225)); have n4_ := Aside0.mk ((by rw [hg]; exact (below_size (upB HB.out)) : w.heap.size ≤ gb225)); clear HO_9; clear HB; have HO_9 := n0_; have HB := n1_; have BK225 := n2_; have GW225 := n3_; have GE225 := n4_; clear n0_ n1_ n2_ n3_ n4_; clear hb hbox hg; have hcz26_0 := ci BK225.out 0 0 rfl; have hcz26_1 := ci BK225.out 1 0 rfl; have hcz26_2 := ci BK225.out 2 0 rfl; have hcz26_3 := ci BK225.out 3 0 rfl; have hcz26_4 := ci BK225.out 4 0 rfl; have hfz26_0 := fun j_ : Nat => blk_frozen BK225.out j_) | ((with_reducible refine gate_store (t := 32) (p := 11) rfl ?_); (try (rw [drewN_self w25]; generalize hq_ : World.drewN w25 _ = w25; have n0_ := Aside0.mk (Kd.R_at hq_ HO_9.out); have n1_ := Aside0.mk (blk_at hq_ BK225.out); have n2_ := Aside0.mk (below_at hq_ HB.out); clear hq_ HO_9 BK225 HB; have HO_9 := n0_; have BK225 := n1_; have HB := n2_; clear n0_ n1_ n2_)); refine store_event (t := 32) (p := 11) (v := ?vo_w27) (w1 := (((((w25.setCell ⟨gb225, 0, none⟩ (.int .i64 ((rd_T32 l0 x20_2).f0))).setCell ⟨gb225, 1, none⟩ (.int .i64 ((rd_T32 l0 x20_2).f1))).setCell ⟨gb225, 2, none⟩ (.int .i64 ((rd_T32 l0 x20_2).f2))).setCell ⟨gb225, 3, none⟩ (.int .i64 ((rd_T32 l0 x20_2).f3))).setCell ⟨gb225, 4, none⟩ (.int .i64 ((rd_T32 l0 x20_2).f4)))) ?hg ?ho ?hn ?hr ?_; (case ho => rfl); (case hg => rfl); (case hn => rfl); (case hr => first | (go_simp; done) | (go_simp; rfl)); intro w27 hw; have n0_ : Aside0 (Kd.R Kd.bool 64 w27 w.heap.size (fun _ => True) (.slice (some ⟨go7, 0, none⟩) x9_2.length 8) x9_2) := ⟨(by rw [hw]; exact (Kd.R_mono (zF (Kd.R_types HO_9.out BK225.out (by decide))) (fun _ hk => trivial)))⟩; have n1_ : Aside0 (w27.heap[gb225]? = some (.cells #[.int .i64 ((rd_T32 l0 x20_2).f0), .int .i64 ((rd_T32 l0 x20_2).f1), .int .i64 ((rd_T32 l0 x20_2).f2), .int .i64 ((rd_T32 l0 x20_2).f3), .int .i64 ((rd_T32 l0 x20_2).f4)] 32 (0, 0))) := ⟨(by rw [hw]; exact (by (with_reducible repeat (first | refine blk_drewN ?_ _ | refine blk_drew ?_ | refine blk_alloc ?_ _)); refine blk_put (cs := #[.int .i64 ((rd_T32 l0 x20_2).f0), .int .i64 ((rd_T32 l0 x20_2).f1), .int .i64 ((rd_T32 l0 x20_2).f2), .int .i64 ((rd_T32 l0 x20_2).f3), .int .i64 0]) ?_ 4 _ rfl; (with_reducible repeat (first | refine blk_drewN ?_ _ | refine blk_drew ?_ | refine blk_alloc ?_ _)); refine blk_put (cs := #[.int .i64 ((rd_T32 l0 x20_2).f0), .int .i64 ((rd_T32 l0 x20_2).f1), .int .i64 ((rd_T32 l0 x20_2).f2), .int .i64 0, .int .i64 0]) ?_ 3 _ rfl; (with_reducible repeat (first | refine blk_drewN ?_ _ | refine blk_drew ?_ | refine blk_alloc ?_ _)); refine blk_put (cs := #[.int .i64 ((rd_T32 l0 x20_2).f0), .int .i64 ((rd_T32 l0 x20_2).f1), .int .i64 0, .int .i64 0, .int .i64 0]) ?_ 2 _ rfl; (with_reducible repeat (first | refine blk_drewN ?_ _ | refine blk_drew ?_ | refine blk_alloc ?_ _)); refine blk_put (cs := #[.int .i64 ((rd_T32 l0 x20_2).f0), .int .i64 0, .int .i64 0, .int .i64 0, .int .i64 0]) ?_ 1 _ rfl; (with_reducible repeat (first | refine blk_drewN ?_ _ | refine blk_drew ?_ | refine blk_alloc ?_ _)); refine blk_put (cs := #[.int .i64 0, .int .i64 0, .int .i64 0, .int .i64 0, .int .i64 0]) ?_ 0 _ rfl; (with_reducible repeat (first | refine blk_drewN ?_ _ | refine blk_drew ?_ | refine blk_alloc ?_ _)); exact BK225.out))⟩; have n2_ : Aside0 (Below w.heap.size w w27) := ⟨(by rw [hw]; exact (upB1 HB.out GE225.out))⟩; clear hw; clear HO_9; clear BK225; clear HB; have HO_9 := n0_; have BK225 := n1_; have HB := n2_; clear n0_ n1_ n2_; obtain ⟨ad226, e226, hx226_0, p226, q226⟩ := zi HR1 HB x20_2; cases e226; have hcz28_0 := ci BK225.out 0 ((rd_T32 l0 x20_2).f0) rfl; have hcz28_1 := ci BK225.out 1 ((rd_T32 l0 x20_2).f1) rfl; have hcz28_2 := ci BK225.out 2 ((rd_T32 l0 x20_2).f2) rfl; have hcz28_3 := ci BK225.out 3 ((rd_T32 l0 x20_2).f3) rfl; have hcz28_4 := ci BK225.out 4 ((rd_T32 l0 x20_2).f4) rfl; have hfz28_0 := fun j_ : Nat => blk_frozen BK225.out j_; have e8_ : (x9_2.length : Int) = 8 := (by have := HL8.out; omega); have p227 : 0 ≤ (((rd_T32 l0 x20_2).f0) : Int) := of_decide_eq_true asmB; have q227 : ((rd_T32 l0 x20_2).f0) < (x9_2.length : Int) := of_decide_eq_true asmB; obtain ⟨ad227, e227, hx227_0⟩ := Kd.at_bool (Kd.R_reads' HO_9.out).2.2 ((rd_T32 l0 x20_2).f0) p227 q227; obtain rfl : (⟨go7, 0, none⟩ : Addr) = ad227 := (by injection e227); (first | simp only [add_plain] at hx227_0 | simp only [add_at] at hx227_0 | simp only [Addr.add, Nat.zero_add] at hx227_0 | skip); replace p227 := eq_true p227; rw [e8_] at q227; replace q227 := eq_true q227; have p228 : 0 ≤ (((rd_T32 l0 x20_2).f1) : Int) := of_decide_eq_true asmB; have q228 : ((rd_T32 l0 x20_2).f1) < (x9_2.length : Int) := of_decide_eq_true asmB; obtain ⟨ad228, e228, hx228_0⟩ := Kd.at_bool (Kd.R_reads' HO_9.out).2.2 ((rd_T32 l0 x20_2).f1) p228 q228; obtain rfl : (⟨go7, 0, none⟩ : Addr) = ad228 := (by injection e228); (first | simp only [add_plain] at hx228_0 | simp only [add_at] at hx228_0 | simp only [Addr.add, Nat.zero_add] at hx228_0 | skip); replace p228 := eq_true p228; rw [e8_] at q228; replace q228 := eq_true q228)); try go_wp2_with (first | ((with_reducible refine gate_dst (N := 11) rfl ?_); refine box_event ?hg (N := 11) ?hd (cs := #[.int .i64 0, .int .i64 0, .int .i64 0, .int .i64 0, .int .i64 0]) (t := 32) ?hr ?_; (case hd => rfl); (case hg => rfl); (case hr => first | (go_simp; done) | (go_simp; rfl)); intro gb225 hg w25 hbox hb; have n0_ := Aside0.mk (Kd.R_below (upR HO_9.out) hb); have n1_ := Aside0.mk (below_step (upB HB.out) hb); have n2_ := Aside0.mk (hbox); have n3_ := Aside0.mk ((by rw [hg]; exact (below_size (upB HB.out)) : w.heap.size ≤ gb225)); have n4_ := Aside0.mk ((by rw [hg]; exact (below_size (upB HB.out)) : w.heap.size ≤ gb225)); clear HO_9; clear HB; have HO_9 := n0_; have HB := n1_; have BK225 := n2_; have GW225 := n3_; have GE225 := n4_; clear n0_ n1_ n2_ n3_ n4_; clear hb hbox hg; have hcz26_0 := ci BK225.out 0 0 rfl; have hcz26_1 := ci BK225.out 1 0 rfl; have hcz26_2 := ci BK225.out 2 0 rfl; have hcz26_3 := ci BK225.out 3 0 rfl; have hcz26_4 := ci BK225.out 4 0 rfl; have hfz26_0 := fun j_ : Nat => blk_frozen BK225.out j_) | ((with_reducible refine gate_store (t := 32) (p := 11) rfl ?_); (try (rw [drewN_self w25]; generalize hq_ : World.drewN w25 _ = w25; have n0_ := Aside0.mk (Kd.R_at hq_ HO_9.out); have n1_ := Aside0.mk (blk_at hq_ BK225.out); have n2_ := Aside0.mk (below_at hq_ HB.out); clear hq_ HO_9 BK225 HB; have HO_9 := n0_; have BK225 := n1_; have HB := n2_; clear n0_ n1_ n2_)); refine store_event (t := 32) (p := 11) (v := ?vo_w27) (w1 := (((((w25.setCell ⟨gb225, 0, none⟩ (.int .i64 ((rd_T32 l0 x20_2).f0))).setCell ⟨gb225, 1, none⟩ (.int .i64 ((rd_T32 l0 x20_2).f1))).setCell ⟨gb225, 2, none⟩ (.int .i64 ((rd_T32 l0 x20_2).f2))).setCell ⟨gb225, 3, none⟩ (.int .i64 ((rd_T32 l0 x20_2).f3))).setCell ⟨gb225, 4, none⟩ (.int .i64 ((rd_T32 l0 x20_2).f4)))) ?hg ?ho ?hn ?hr ?_; (case ho => rfl); (case hg => rfl); (case hn => rfl); (case hr => first | (go_simp; done) | (go_simp; rfl)); intro w27 hw; have n0_ : Aside0 (Kd.R Kd.bool 64 w27 w.heap.size (fun _ => True) (.slice (some ⟨go7, 0, none⟩) x9_2.length 8) x9_2) := ⟨(by rw [hw]; exact (Kd.R_mono (zF (Kd.R_types HO_9.out BK225.out (by decide))) (fun _ hk => trivial)))⟩; have n1_ : Aside0 (w27.heap[gb225]? = some (.cells #[.int .i64 ((rd_T32 l0 x20_2).f0), .int .i64 ((rd_T32 l0 x20_2).f1), .int .i64 ((rd_T32 l0 x20_2).f2), .int .i64 ((rd_T32 l0 x20_2).f3), .int .i64 ((rd_T32 l0 x20_2).f4)] 32 (0, 0))) := ⟨(by rw [hw]; exact (by (with_reducible repeat (first | refine blk_drewN ?_ _ | refine blk_drew ?_ | refine blk_alloc ?_ _)); refine blk_put (cs := #[.int .i64 ((rd_T32 l0 x20_2).f0), .int .i64 ((rd_T32 l0 x20_2).f1), .int .i64 ((rd_T32 l0 x20_2).f2), .int .i64 ((rd_T32 l0 x20_2).f3), .int .i64 0]) ?_ 4 _ rfl; (with_reducible repeat (first | refine blk_drewN ?_ _ | refine blk_drew ?_ | refine blk_alloc ?_ _)); refine blk_put (cs := #[.int .i64 ((rd_T32 l0 x20_2).f0), .int .i64 ((rd_T32 l0 x20_2).f1), .int .i64 ((rd_T32 l0 x20_2).f2), .int .i64 0, .int .i64 0]) ?_ 3 _ rfl; (with_reducible repeat (first | refine blk_drewN ?_ _ | refine blk_drew ?_ | refine blk_alloc ?_ _)); refine blk_put (cs := #[.int .i64 ((rd_T32 l0 x20_2).f0), .int .i64 ((rd_T32 l0 x20_2).f1), .int .i64 0, .int .i64 0, .int .i64 0]) ?_ 2 _ rfl; (with_reducible repeat (first | refine blk_drewN ?_ _ | refine blk_drew ?_ | refine blk_alloc ?_ _)); refine blk_put (cs := #[.int .i64 ((rd_T32 l0 x20_2).f0), .int .i64 0, .int .i64 0, .int .i64 0, .int .i64 0]) ?_ 1 _ rfl; (with_reducible repeat (first | refine blk_drewN ?_ _ | refine blk_drew ?_ | refine blk_alloc ?_ _)); refine blk_put (cs := #[.int .i64 0, .int .i64 0, .int .i64 0, .int .i64 0, .int .i64 0]) ?_ 0 _ rfl; (with_reducible repeat (first | refine blk_drewN ?_ _ | refine blk_drew ?_ | refine blk_alloc ?_ _)); exact BK225.out))⟩; have n2_ : Aside0 (Below w.heap.size w w27) := ⟨(by rw [hw]; exact (upB1 HB.out GE225.out))⟩; clear hw; clear HO_9; clear BK225; clear HB; have HO_9 := n0_; have BK225 := n1_; have HB := n2_; clear n0_ n1_ n2_; obtain ⟨ad226, e226, hx226_0, p226, q226⟩ := zi HR1 HB x20_2; cases e226; have hcz28_0 := ci BK225.out 0 ((rd_T32 l0 x20_2).f0) rfl; have hcz28_1 := ci BK225.out 1 ((rd_T32 l0 x20_2).f1) rfl; have hcz28_2 := ci BK225.out 2 ((rd_T32 l0 x20_2).f2) rfl; have hcz28_3 := ci BK225.out 3 ((rd_T32 l0 x20_2).f3) rfl; have hcz28_4 := ci BK225.out 4 ((rd_T32 l0 x20_2).f4) rfl; have hfz28_0 := fun j_ : Nat => blk_frozen BK225.out j_; have e8_ : (x9_2.length : Int) = 8 := (by have := HL8.out; omega); have p227 : 0 ≤ (((rd_T32 l0 x20_2).f0) : Int) := of_decide_eq_true asmB; have q227 : ((rd_T32 l0 x20_2).f0) < (x9_2.length : Int) := of_decide_eq_true asmB; obtain ⟨ad227, e227, hx227_0⟩ := Kd.at_bool (Kd.R_reads' HO_9.out).2.2 ((rd_T32 l0 x20_2).f0) p227 q227; obtain rfl : (⟨go7, 0, none⟩ : Addr) = ad227 := (by injection e227); (first | simp only [add_plain] at hx227_0 | simp only [add_at] at hx227_0 | simp only [Addr.add, Nat.zero_add] at hx227_0 | skip); replace p227 := eq_true p227; rw [e8_] at q227; replace q227 := eq_true q227; have p228 : 0 ≤ (((rd_T32 l0 x20_2).f1) : Int) := of_decide_eq_true asmB; have q228 : ((rd_T32 l0 x20_2).f1) < (x9_2.length : Int) := of_decide_eq_true asmB; obtain ⟨ad228, e228, hx228_0⟩ := Kd.at_bool (Kd.R_reads' HO_9.out).2.2 ((rd_T32 l0 x20_2).f1) p228 q228; obtain rfl : (⟨go7, 0, none⟩ : Addr) = ad228 := (by injection e228); (first | simp only [add_plain] at hx228_0 | simp only [add_at] at hx228_0 | simp only [Addr.add, Nat.zero_add] at hx228_0 | skip); replace p228 := eq_true p228; rw [e8_] at q228; replace q228 := eq_true q228)))
         have n0_ : Aside0 (Kd.R Kd.bool 64 ((w27.drewN nq).drew) w.heap.size (fun _ => True) (.slice (some ⟨go7, 0, none⟩) x9_2.length 8) x9_2) := ⟨Kd.R_drew (Kd.R_drewN HO_9.out nq)⟩
         have n1_ : Aside0 (((w27.drewN nq).drew).heap[gb225]? = some (.cells #[.int .i64 ((rd_T32 l0 x20_2).f0), .int .i64 ((rd_T32 l0 x20_2).f1), .int .i64 ((rd_T32 l0 x20_2).f2), .int .i64 ((rd_T32 l0 x20_2).f3), .int .i64 ((rd_T32 l0 x20_2).f4)] 32 (0, 0))) := ⟨BK225.out⟩
         have n2_ : Aside0 (Below w.heap.size w ((w27.drewN nq).drew)) := ⟨below_drew (pw_below_drewN HB.out nq)⟩
         clear HO_9 BK225 HB
         have HO_9 := n0_
         have BK225 := n1_
         have HB := n2_
         clear n0_ n1_ n2_
         have S_ : ∀ {W : World}, W.heap[gb225]? = some (.cells #[.int .i64 ((rd_T32 l0 x20_2).f0), .int .i64 ((rd_T32 l0 x20_2).f1), .int .i64 ((rd_T32 l0 x20_2).f2), .int .i64 ((rd_T32 l0 x20_2).f3), .int .i64 ((rd_T32 l0 x20_2).f4)] 32 (0, 0)) → World.cell? W ⟨gb225, 0, none⟩ = some (.int .i64 ((rd_T32 l0 x20_2).f0)) ∧ World.cell? W ⟨gb225, 1, none⟩ = some (.int .i64 ((rd_T32 l0 x20_2).f1)) := fun h_ => ⟨(blk_cell h_ 0).trans rfl, (blk_cell h_ 1).trans rfl⟩
         refine start_ (n := 8) (S := fun w' => World.cell? w' ⟨gb225, 0, none⟩ = some (.int .i64 ((rd_T32 l0 x20_2).f0)) ∧ World.cell? w' ⟨gb225, 1, none⟩ = some (.int .i64 ((rd_T32 l0 x20_2).f1))) (ds := []) #[false, false, false, false, false, false, false, false] (by kernel_rfl) rfl rfl (S_ BK225.out) (fun hHeld => ?_)
         generalize (w27.drewN nq).drew = w28 at HO_9 BK225 HB hHeld ⊢
         refine pure_ (i := 0) (N := some 42) (v := ?_) (a' := ?_) #[true, false, false, false, false, false, false, false] rfl rfl (by kernel_rfl) (fun _ _ _ h => h) (Or.inl ⟨by rfl, ?_⟩) ?_ ?_
         rotate_left
         ·intro w'
          go_simp
          with_reducible rfl
         rotate_left
         ·simp only [Act.put, List.setIfInBounds_toArray, List.set_cons_zero, List.set_cons_succ, i64_w, i32_w]
          rfl
         refine take_ (i := 1) (N := some 43) (v := ?_) (a' := ?_) #[true, true, false, false, false, false, false, false] rfl rfl (by kernel_rfl) (fun _ _ _ h => h) (Or.inl ⟨by rfl, ?_⟩) hHeld ?_ ?_
         rotate_left
         ·rintro w' ⟨s0, s1⟩
          go_simp
          with_reducible rfl
         rotate_left
         ·simp only [Act.put, List.setIfInBounds_toArray, List.set_cons_zero, List.set_cons_succ, i64_w, i32_w]
          rfl
         refine pure_ (i := 2) (N := some 44) (v := ?_) (a' := ?_) #[true, true, true, false, false, false, false, false] rfl rfl (by kernel_rfl) (fun _ _ _ h => h) (Or.inl ⟨by rfl, ?_⟩) ?_ ?_
         rotate_left
         ·intro w'
          go_simp
          with_reducible rfl
         rotate_left
         ·simp only [Act.put, List.setIfInBounds_toArray, List.set_cons_zero, List.set_cons_succ, i64_w, i32_w]
          rfl
         refine take_ (i := 3) (N := some 45) (v := ?_) (a' := ?_) #[true, true, true, true, false, false, false, false] rfl rfl (by kernel_rfl) (fun _ _ _ h => h) (Or.inl ⟨by rfl, ?_⟩) hHeld ?_ ?_
         rotate_left
         ·rintro w' ⟨s0, s1⟩
          go_simp
          with_reducible rfl
         rotate_left
         ·simp only [Act.put, List.setIfInBounds_toArray, List.set_cons_zero, List.set_cons_succ, i64_w, i32_w]
          rfl
         refine pure_ (i := 4) (N := some 46) (v := ?_) (a' := ?_) #[true, true, true, true, true, false, false, false] rfl rfl (by kernel_rfl) (fun _ _ _ h => h) (Or.inl ⟨by rfl, ?_⟩) ?_ ?_
         rotate_left
         ·intro w'
          go_simp
          with_reducible rfl
         rotate_left
         ·simp only [Act.put, List.setIfInBounds_toArray, List.set_cons_zero, List.set_cons_succ, i64_w, i32_w]
          rfl
         obtain ⟨hxs_, hfs_⟩ := Kd.R_cell false HO_9.out ((rd_T32 l0 x20_2).f0) (of_eq_true p227) (by have := HL8.out; have h_ := of_eq_true q227; first | omega | (rw [rfl, List.length_set]; omega))
         have hps_ := Aside0.mk (Kd.R_put HO_9.out ((rd_T32 l0 x20_2).f0) true)
         refine one_ (i := 5) (N := none) #[true, true, true, true, true, true, false, false] rfl rfl (by kernel_rfl) (by decide) (fun K hK => ?_)
         refine skip_ (w1 := ?_) (by rfl) rfl ?_ ?_
         rotate_left
         ·go_simp
          rfl
         have n1_ := Aside0.mk (blk_grown BK225.out hps_.out.2 (Kd.R_ne HO_9.out BK225.out (by decide)))
         have n2_ : Aside0 (Below w.heap.size w (w28.setCell ⟨go7, ((rd_T32 l0 x20_2).f0).toNat, none⟩ (.bool true))) := ⟨below_set HB.out GB7.out⟩
         refine hK.out _ _ (S_ n1_.out) (fun hHeld => ?_)
         clear hK K
         have n0_ : Aside0 (Kd.R Kd.bool 64 (w28.setCell ⟨go7, ((rd_T32 l0 x20_2).f0).toNat, none⟩ (.bool true)) w.heap.size (fun _ => True) (.slice (some ⟨go7, 0, none⟩) y229.length 8) y229) := ⟨by rw [Ny229.out, List.length_set]; exact hps_.out.1⟩
         clear HO_9 BK225 HB hps_ hxs_ hfs_
         have HO_9 := n0_
         have BK225 := n1_
         have HB := n2_
         clear n0_ n1_ n2_
         generalize w28.setCell ⟨go7, ((rd_T32 l0 x20_2).f0).toNat, none⟩ (.bool true) = w29 at HO_9 BK225 HB hHeld ⊢
         have e9_ : y229.length = 8 := by rw [Ny229.out, List.length_set]; exact HL8.out
         refine pure_ (i := 6) (N := some 47) (v := ?_) (a' := ?_) #[true, true, true, true, true, true, true, false] rfl rfl (by kernel_rfl) (fun _ _ _ h => h) (Or.inl ⟨by rfl, ?_⟩) ?_ ?_
         rotate_left
         ·intro w'
          go_simp
          with_reducible rfl
         rotate_left
         ·simp only [Act.put, List.setIfInBounds_toArray, List.set_cons_zero, List.set_cons_succ, i64_w, i32_w]
          rfl
         obtain ⟨hxs_, hfs_⟩ := Kd.R_cell false HO_9.out ((rd_T32 l0 x20_2).f1) (of_eq_true p228) (by have := HL8.out; have h_ := of_eq_true q228; first | omega | (rw [Ny229.out, List.length_set]; omega))
         have hps_ := Aside0.mk (Kd.R_put HO_9.out ((rd_T32 l0 x20_2).f1) true)
         refine one_ (i := 7) (N := none) #[true, true, true, true, true, true, true, true] rfl rfl (by kernel_rfl) (by decide) (fun K hK => ?_)
         refine skip_ (w1 := ?_) (by rfl) rfl ?_ ?_
         rotate_left
         ·go_simp
          rfl
         have n1_ := Aside0.mk (blk_grown BK225.out hps_.out.2 (Kd.R_ne HO_9.out BK225.out (by decide)))
         have n2_ : Aside0 (Below w.heap.size w (w29.setCell ⟨go7, ((rd_T32 l0 x20_2).f1).toNat, none⟩ (.bool true))) := ⟨below_set HB.out GB7.out⟩
         refine hK.out _ _ (S_ n1_.out) (fun hHeld => ?_)
         clear hK K
         have n0_ : Aside0 (Kd.R Kd.bool 64 (w29.setCell ⟨go7, ((rd_T32 l0 x20_2).f1).toNat, none⟩ (.bool true)) w.heap.size (fun _ => True) (.slice (some ⟨go7, 0, none⟩) x9_2.length 8) y230) := ⟨by rw [Ny230.out]; have h_ := hps_.out.1; rw [e9_] at h_; rw [HL8.out]; exact h_⟩
         clear HO_9 BK225 HB hps_ hxs_ hfs_
         have HO_9 := n0_
         have BK225 := n1_
         have HB := n2_
         clear n0_ n1_ n2_
         generalize w29.setCell ⟨go7, ((rd_T32 l0 x20_2).f1).toNat, none⟩ (.bool true) = w30 at HO_9 BK225 HB hHeld ⊢
         refine done_ (by kernel_rfl) ?_
         try go_wp2
         (try simp only [← hl9_2])
         go_roundg k2
         case measure => have := HK1.out; have := HK2.out; omega
         case rel => exact ⟨(y230), (wrap64 (x20_2 + 1)), (by first | rfl | (simp; done) | (simp [*]; done)), H', ⟨by have := HK1.out; have := HK2.out; omega⟩, ⟨by (try simp only [hl9_1]); (try simp only [hl9_2]); exact HO_9.out⟩, HB⟩
        ·rw [if_neg c22] at H
         have c22b0 : ((rdOf false x9_2 ((rd_T32 l0 x20_2).f0)) != (rdOf false x9_2 ((rd_T32 l0 x20_2).f1))) = false := by simpa using c22
         (try (have c22b1 : decide ((rdOf false x9_2 ((rd_T32 l0 x20_2).f0)) = (rdOf false x9_2 ((rd_T32 l0 x20_2).f1))) = true := by simpa using c22))
         (try (have c22b2 : ((rdOf false x9_2 ((rd_T32 l0 x20_2).f0)) == (rdOf false x9_2 ((rd_T32 l0 x20_2).f1))) = true := by simpa using c22))
         clear c22
         have H' := Aside0.mk H
         clear H
         obtain ⟨ad224, e224, hx224_0, hx224_1, hx224_2, hx224_3, hx224_4, p224, q224⟩ := zT HR0 HB x20_2
         cases e224
         go_wp2_with (first | ((with_reducible refine gate_dst (N := 11) rfl ?_); refine box_event ?hg (N := 11) ?hd (cs := #[.int .i64 0, .int .i64 0, .int .i64 0, .int .i64 0, .int .i64 0]) (t := 32) ?hr ?_; (case hd => rfl); (case hg => rfl); (case hr => first | (go_simp; done) | (go_simp; rfl)); intro gb225 hg w25 hbox hb; have n0_ := Aside0.mk (Kd.R_below (upR HO_9.out) hb); have n1_ := Aside0.mk (below_step (upB HB.out) hb); have n2_ := Aside0.mk (hbox); have n3_ := Aside0.mk ((by rw [hg]; exact (below_size (upB HB.out)) : w.heap.size ≤ gb225)); have n4_ := Aside0.mk ((by rw [hg]; exact (below_size (upB HB.out)) : w.heap.size ≤ gb225)); clear HO_9; clear HB; have HO_9 := n0_; have HB := n1_; have BK225 := n2_; have GW225 := n3_; have GE225 := n4_; clear n0_ n1_ n2_ n3_ n4_; clear hb hbox hg; have hcz26_0 := ci BK225.out 0 0 rfl; have hcz26_1 := ci BK225.out 1 0 rfl; have hcz26_2 := ci BK225.out 2 0 rfl; have hcz26_3 := ci BK225.out 3 0 rfl; have hcz26_4 := ci BK225.out 4 0 rfl; have hfz26_0 := fun j_ : Nat => blk_frozen BK225.out j_) | ((with_reducible refine gate_store (t := 32) (p := 11) rfl ?_); (try (rw [drewN_self w25]; generalize hq_ : World.drewN w25 _ = w25; have n0_ := Aside0.mk (Kd.R_at hq_ HO_9.out); have n1_ := Aside0.mk (blk_at hq_ BK225.out); have n2_ := Aside0.mk (below_at hq_ HB.out); clear hq_ HO_9 BK225 HB; have HO_9 := n0_; have BK225 := n1_; have HB := n2_; clear n0_ n1_ n2_)); refine store_event (t := 32) (p := 11) (v := ?vo_w27) (w1 := (((((w25.setCell ⟨gb225, 0, none⟩ (.int .i64 ((rd_T32 l0 x20_2).f0))).setCell ⟨gb225, 1, none⟩ (.int .i64 ((rd_T32 l0 x20_2).f1))).setCell ⟨gb225, 2, none⟩ (.int .i64 ((rd_T32 l0 x20_2).f2))).setCell ⟨gb225, 3, none⟩ (.int .i64 ((rd_T32 l0 x20_2).f3))).setCell ⟨gb225, 4, none⟩ (.int .i64 ((rd_T32 l0 x20_2).f4)))) ?hg ?ho ?hn ?hr ?_; (case ho => rfl); (case hg => rfl); (case hn => rfl); (case hr => first | (go_simp; done) | (go_simp; rfl)); intro w27 hw; have n0_ : Aside0 (Kd.R Kd.bool 64 w27 w.heap.size (fun _ => True) (.slice (some ⟨go7, 0, none⟩) x9_2.length 8) x9_2) := ⟨(by rw [hw]; exact (Kd.R_mono (zF (Kd.R_types HO_9.out BK225.out (by decide))) (fun _ hk => trivial)))⟩; have n1_ : Aside0 (w27.heap[gb225]? = some (.cells #[.int .i64 ((rd_T32 l0 x20_2).f0), .int .i64 ((rd_T32 l0 x20_2).f1), .int .i64 ((rd_T32 l0 x20_2).f2), .int .i64 ((rd_T32 l0 x20_2).f3), .int .i64 ((rd_T32 l0 x20_2).f4)] 32 (0, 0))) := ⟨(by rw [hw]; exact (by (with_reducible repeat (first | refine blk_drewN ?_ _ | refine blk_drew ?_ | refine blk_alloc ?_ _)); refine blk_put (cs := #[.int .i64 ((rd_T32 l0 x20_2).f0), .int .i64 ((rd_T32 l0 x20_2).f1), .int .i64 ((rd_T32 l0 x20_2).f2), .int .i64 ((rd_T32 l0 x20_2).f3), .int .i64 0]) ?_ 4 _ rfl; (with_reducible repeat (first | refine blk_drewN ?_ _ | refine blk_drew ?_ | refine blk_alloc ?_ _)); refine blk_put (cs := #[.int .i64 ((rd_T32 l0 x20_2).f0), .int .i64 ((rd_T32 l0 x20_2).f1), .int .i64 ((rd_T32 l0 x20_2).f2), .int .i64 0, .int .i64 0]) ?_ 3 _ rfl; (with_reducible repeat (first | refine blk_drewN ?_ _ | refine blk_drew ?_ | refine blk_alloc ?_ _)); refine blk_put (cs := #[.int .i64 ((rd_T32 l0 x20_2).f0), .int .i64 ((rd_T32 l0 x20_2).f1), .int .i64 0, .int .i64 0, .int .i64 0]) ?_ 2 _ rfl; (with_reducible repeat (first | refine blk_drewN ?_ _ | refine blk_drew ?_ | refine blk_alloc ?_ _)); refine blk_put (cs := #[.int .i64 ((rd_T32 l0 x20_2).f0), .int .i64 0, .int .i64 0, .int .i64 0, .int .i64 0]) ?_ 1 _ rfl; (with_reducible repeat (first | refine blk_drewN ?_ _ | refine blk_drew ?_ | refine blk_alloc ?_ _)); refine blk_put (cs := #[.int .i64 0, .int .i64 0, .int .i64 0, .int .i64 0, .int .i64 0]) ?_ 0 _ rfl; (with_reducible repeat (first | refine blk_drewN ?_ _ | refine blk_drew ?_ | refine blk_alloc ?_ _)); exact BK225.out))⟩; have n2_ : Aside0 (Below w.heap.size w w27) := ⟨(by rw [hw]; exact (upB1 HB.out GE225.out))⟩; clear hw; clear HO_9; clear BK225; clear HB; have HO_9 := n0_; have BK225 := n1_; have HB := n2_; clear n0_ n1_ n2_; obtain ⟨ad226, e226, hx226_0, p226, q226⟩ := zi HR1 HB x20_2; cases e226; have hcz28_0 := ci BK225.out 0 ((rd_T32 l0 x20_2).f0) rfl; have hcz28_1 := ci BK225.out 1 ((rd_T32 l0 x20_2).f1) rfl; have hcz28_2 := ci BK225.out 2 ((rd_T32 l0 x20_2).f2) rfl; have hcz28_3 := ci BK225.out 3 ((rd_T32 l0 x20_2).f3) rfl; have hcz28_4 := ci BK225.out 4 ((rd_T32 l0 x20_2).f4) rfl; have hfz28_0 := fun j_ : Nat => blk_frozen BK225.out j_; have e8_ : (x9_2.length : Int) = 8 := (by have := HL8.out; omega); have p227 : 0 ≤ (((rd_T32 l0 x20_2).f0) : Int) := of_decide_eq_true asmB; have q227 : ((rd_T32 l0 x20_2).f0) < (x9_2.length : Int) := of_decide_eq_true asmB; obtain ⟨ad227, e227, hx227_0⟩ := Kd.at_bool (Kd.R_reads' HO_9.out).2.2 ((rd_T32 l0 x20_2).f0) p227 q227; obtain rfl : (⟨go7, 0, none⟩ : Addr) = ad227 := (by injection e227); (first | simp only [add_plain] at hx227_0 | simp only [add_at] at hx227_0 | simp only [Addr.add, Nat.zero_add] at hx227_0 | skip); replace p227 := eq_true p227; rw [e8_] at q227; replace q227 := eq_true q227; have p228 : 0 ≤ (((rd_T32 l0 x20_2).f1) : Int) := of_decide_eq_true asmB; have q228 : ((rd_T32 l0 x20_2).f1) < (x9_2.length : Int) := of_decide_eq_true asmB; obtain ⟨ad228, e228, hx228_0⟩ := Kd.at_bool (Kd.R_reads' HO_9.out).2.2 ((rd_T32 l0 x20_2).f1) p228 q228; obtain rfl : (⟨go7, 0, none⟩ : Addr) = ad228 := (by injection e228); (first | simp only [add_plain] at hx228_0 | simp only [add_at] at hx228_0 | simp only [Addr.add, Nat.zero_add] at hx228_0 | skip); replace p228 := eq_true p228; rw [e8_] at q228; replace q228 := eq_true q228))
         repeat (go_quiet (first | ((with_reducible refine gate_dst (N := 11) rfl ?_); refine box_event ?hg (N := 11) ?hd (cs := #[.int .i64 0, .int .i64 0, .int .i64 0, .int .i64 0, .int .i64 0]) (t := 32) ?hr ?_; (case hd => rfl); (case hg => rfl); (case hr => first | (go_simp; done) | (go_simp; rfl)); intro gb225 hg w25 hbox hb; have n0_ := Aside0.mk (Kd.R_below (upR HO_9.out) hb); have n1_ := Aside0.mk (below_step (upB HB.out) hb); have n2_ := Aside0.mk (hbox); have n3_ := Aside0.mk ((by rw [hg]; exact (below_size (upB HB.out)) : w.heap.size ≤ gb225)); have n4_ := Aside0.mk ((by rw [hg]; exact (below_size (upB HB.out)) : w.heap.size ≤ gb225)); clear HO_9; clear HB; have HO_9 := n0_; have HB := n1_; have BK225 := n2_; have GW225 := n3_; have GE225 := n4_; clear n0_ n1_ n2_ n3_ n4_; clear hb hbox hg; have hcz26_0 := ci BK225.out 0 0 rfl; have hcz26_1 := ci BK225.out 1 0 rfl; have hcz26_2 := ci BK225.out 2 0 rfl; have hcz26_3 := ci BK225.out 3 0 rfl; have hcz26_4 := ci BK225.out 4 0 rfl; have hfz26_0 := fun j_ : Nat => blk_frozen BK225.out j_) | ((with_reducible refine gate_store (t := 32) (p := 11) rfl ?_); (try (rw [drewN_self w25]; generalize hq_ : World.drewN w25 _ = w25; have n0_ := Aside0.mk (Kd.R_at hq_ HO_9.out); have n1_ := Aside0.mk (blk_at hq_ BK225.out); have n2_ := Aside0.mk (below_at hq_ HB.out); clear hq_ HO_9 BK225 HB; have HO_9 := n0_; have BK225 := n1_; have HB := n2_; clear n0_ n1_ n2_)); refine store_event (t := 32) (p := 11) (v := ?vo_w27) (w1 := (((((w25.setCell ⟨gb225, 0, none⟩ (.int .i64 ((rd_T32 l0 x20_2).f0))).setCell ⟨gb225, 1, none⟩ (.int .i64 ((rd_T32 l0 x20_2).f1))).setCell ⟨gb225, 2, none⟩ (.int .i64 ((rd_T32 l0 x20_2).f2))).setCell ⟨gb225, 3, none⟩ (.int .i64 ((rd_T32 l0 x20_2).f3))).setCell ⟨gb225, 4, none⟩ (.int .i64 ((rd_T32 l0 x20_2).f4)))) ?hg ?ho ?hn ?hr ?_; (case ho => rfl); (case hg => rfl); (case hn => rfl); (case hr => first | (go_simp; done) | (go_simp; rfl)); intro w27 hw; have n0_ : Aside0 (Kd.R Kd.bool 64 w27 w.heap.size (fun _ => True) (.slice (some ⟨go7, 0, none⟩) x9_2.length 8) x9_2) := ⟨(by rw [hw]; exact (Kd.R_mono (zF (Kd.R_types HO_9.out BK225.out (by decide))) (fun _ hk => trivial)))⟩; have n1_ : Aside0 (w27.heap[gb225]? = some (.cells #[.int .i64 ((rd_T32 l0 x20_2).f0), .int .i64 ((rd_T32 l0 x20_2).f1), .int .i64 ((rd_T32 l0 x20_2).f2), .int .i64 ((rd_T32 l0 x20_2).f3), .int .i64 ((rd_T32 l0 x20_2).f4)] 32 (0, 0))) := ⟨(by rw [hw]; exact (by (with_reducible repeat (first | refine blk_drewN ?_ _ | refine blk_drew ?_ | refine blk_alloc ?_ _)); refine blk_put (cs := #[.int .i64 ((rd_T32 l0 x20_2).f0), .int .i64 ((rd_T32 l0 x20_2).f1), .int .i64 ((rd_T32 l0 x20_2).f2), .int .i64 ((rd_T32 l0 x20_2).f3), .int .i64 0]) ?_ 4 _ rfl; (with_reducible repeat (first | refine blk_drewN ?_ _ | refine blk_drew ?_ | refine blk_alloc ?_ _)); refine blk_put (cs := #[.int .i64 ((rd_T32 l0 x20_2).f0), .int .i64 ((rd_T32 l0 x20_2).f1), .int .i64 ((rd_T32 l0 x20_2).f2), .int .i64 0, .int .i64 0]) ?_ 3 _ rfl; (with_reducible repeat (first | refine blk_drewN ?_ _ | refine blk_drew ?_ | refine blk_alloc ?_ _)); refine blk_put (cs := #[.int .i64 ((rd_T32 l0 x20_2).f0), .int .i64 ((rd_T32 l0 x20_2).f1), .int .i64 0, .int .i64 0, .int .i64 0]) ?_ 2 _ rfl; (with_reducible repeat (first | refine blk_drewN ?_ _ | refine blk_drew ?_ | refine blk_alloc ?_ _)); refine blk_put (cs := #[.int .i64 ((rd_T32 l0 x20_2).f0), .int .i64 0, .int .i64 0, .int .i64 0, .int .i64 0]) ?_ 1 _ rfl; (with_reducible repeat (first | refine blk_drewN ?_ _ | refine blk_drew ?_ | refine blk_alloc ?_ _)); refine blk_put (cs := #[.int .i64 0, .int .i64 0, .int .i64 0, .int .i64 0, .int .i64 0]) ?_ 0 _ rfl; (with_reducible repeat (first | refine blk_drewN ?_ _ | refine blk_drew ?_ | refine blk_alloc ?_ _)); exact BK225.out))⟩; have n2_ : Aside0 (Below w.heap.size w w27) := ⟨(by rw [hw]; exact (upB1 HB.out GE225.out))⟩; clear hw; clear HO_9; clear BK225; clear HB; have HO_9 := n0_; have BK225 := n1_; have HB := n2_; clear n0_ n1_ n2_; obtain ⟨ad226, e226, hx226_0, p226, q226⟩ := zi HR1 HB x20_2; cases e226; have hcz28_0 := ci BK225.out 0 ((rd_T32 l0 x20_2).f0) rfl; have hcz28_1 := ci BK225.out 1 ((rd_T32 l0 x20_2).f1) rfl; have hcz28_2 := ci BK225.out 2 ((rd_T32 l0 x20_2).f2) rfl; have hcz28_3 := ci BK225.out 3 ((rd_T32 l0 x20_2).f3) rfl; have hcz28_4 := ci BK225.out 4 ((rd_T32 l0 x20_2).f4) rfl; have hfz28_0 := fun j_ : Nat => blk_frozen BK225.out j_; have e8_ : (x9_2.length : Int) = 8 := (by have := HL8.out; omega); have p227 : 0 ≤ (((rd_T32 l0 x20_2).f0) : Int) := of_decide_eq_true asmB; have q227 : ((rd_T32 l0 x20_2).f0) < (x9_2.length : Int) := of_decide_eq_true asmB; obtain ⟨ad227, e227, hx227_0⟩ := Kd.at_bool (Kd.R_reads' HO_9.out).2.2 ((rd_T32 l0 x20_2).f0) p227 q227; obtain rfl : (⟨go7, 0, none⟩ : Addr) = ad227 := (by injection e227); (first | simp only [add_plain] at hx227_0 | simp only [add_at] at hx227_0 | simp only [Addr.add, Nat.zero_add] at hx227_0 | skip); replace p227 := eq_true p227; rw [e8_] at q227; replace q227 := eq_true q227; have p228 : 0 ≤ (((rd_T32 l0 x20_2).f1) : Int) := of_decide_eq_true asmB; have q228 : ((rd_T32 l0 x20_2).f1) < (x9_2.length : Int) := of_decide_eq_true asmB; obtain ⟨ad228, e228, hx228_0⟩ := Kd.at_bool (Kd.R_reads' HO_9.out).2.2 ((rd_T32 l0 x20_2).f1) p228 q228; obtain rfl : (⟨go7, 0, none⟩ : Addr) = ad228 := (by injection e228); (first | simp only [add_plain] at hx228_0 | simp only [add_at] at hx228_0 | simp only [Addr.add, Nat.zero_add] at hx228_0 | skip); replace p228 := eq_true p228; rw [e8_] at q228; replace q228 := eq_true q228)); try go_wp2_with (first | ((with_reducible refine gate_dst (N := 11) rfl ?_); refine box_event ?hg (N := 11) ?hd (cs := #[.int .i64 0, .int .i64 0, .int .i64 0, .int .i64 0, .int .i64 0]) (t := 32) ?hr ?_; (case hd => rfl); (case hg => rfl); (case hr => first | (go_simp; done) | (go_simp; rfl)); intro gb225 hg w25 hbox hb; have n0_ := Aside0.mk (Kd.R_below (upR HO_9.out) hb); have n1_ := Aside0.mk (below_step (upB HB.out) hb); have n2_ := Aside0.mk (hbox); have n3_ := Aside0.mk ((by rw [hg]; exact (below_size (upB HB.out)) : w.heap.size ≤ gb225)); have n4_ := Aside0.mk ((by rw [hg]; exact (below_size (upB HB.out)) : w.heap.size ≤ gb225)); clear HO_9; clear HB; have HO_9 := n0_; have HB := n1_; have BK225 := n2_; have GW225 := n3_; have GE225 := n4_; clear n0_ n1_ n2_ n3_ n4_; clear hb hbox hg; have hcz26_0 := ci BK225.out 0 0 rfl; have hcz26_1 := ci BK225.out 1 0 rfl; have hcz26_2 := ci BK225.out 2 0 rfl; have hcz26_3 := ci BK225.out 3 0 rfl; have hcz26_4 := ci BK225.out 4 0 rfl; have hfz26_0 := fun j_ : Nat => blk_frozen BK225.out j_) | ((with_reducible refine gate_store (t := 32) (p := 11) rfl ?_); (try (rw [drewN_self w25]; generalize hq_ : World.drewN w25 _ = w25; have n0_ := Aside0.mk (Kd.R_at hq_ HO_9.out); have n1_ := Aside0.mk (blk_at hq_ BK225.out); have n2_ := Aside0.mk (below_at hq_ HB.out); clear hq_ HO_9 BK225 HB; have HO_9 := n0_; have BK225 := n1_; have HB := n2_; clear n0_ n1_ n2_)); refine store_event (t := 32) (p := 11) (v := ?vo_w27) (w1 := (((((w25.setCell ⟨gb225, 0, none⟩ (.int .i64 ((rd_T32 l0 x20_2).f0))).setCell ⟨gb225, 1, none⟩ (.int .i64 ((rd_T32 l0 x20_2).f1))).setCell ⟨gb225, 2, none⟩ (.int .i64 ((rd_T32 l0 x20_2).f2))).setCell ⟨gb225, 3, none⟩ (.int .i64 ((rd_T32 l0 x20_2).f3))).setCell ⟨gb225, 4, none⟩ (.int .i64 ((rd_T32 l0 x20_2).f4)))) ?hg ?ho ?hn ?hr ?_; (case ho => rfl); (case hg => rfl); (case hn => rfl); (case hr => first | (go_simp; done) | (go_simp; rfl)); intro w27 hw; have n0_ : Aside0 (Kd.R Kd.bool 64 w27 w.heap.size (fun _ => True) (.slice (some ⟨go7, 0, none⟩) x9_2.length 8) x9_2) := ⟨(by rw [hw]; exact (Kd.R_mono (zF (Kd.R_types HO_9.out BK225.out (by decide))) (fun _ hk => trivial)))⟩; have n1_ : Aside0 (w27.heap[gb225]? = some (.cells #[.int .i64 ((rd_T32 l0 x20_2).f0), .int .i64 ((rd_T32 l0 x20_2).f1), .int .i64 ((rd_T32 l0 x20_2).f2), .int .i64 ((rd_T32 l0 x20_2).f3), .int .i64 ((rd_T32 l0 x20_2).f4)] 32 (0, 0))) := ⟨(by rw [hw]; exact (by (with_reducible repeat (first | refine blk_drewN ?_ _ | refine blk_drew ?_ | refine blk_alloc ?_ _)); refine blk_put (cs := #[.int .i64 ((rd_T32 l0 x20_2).f0), .int .i64 ((rd_T32 l0 x20_2).f1), .int .i64 ((rd_T32 l0 x20_2).f2), .int .i64 ((rd_T32 l0 x20_2).f3), .int .i64 0]) ?_ 4 _ rfl; (with_reducible repeat (first | refine blk_drewN ?_ _ | refine blk_drew ?_ | refine blk_alloc ?_ _)); refine blk_put (cs := #[.int .i64 ((rd_T32 l0 x20_2).f0), .int .i64 ((rd_T32 l0 x20_2).f1), .int .i64 ((rd_T32 l0 x20_2).f2), .int .i64 0, .int .i64 0]) ?_ 3 _ rfl; (with_reducible repeat (first | refine blk_drewN ?_ _ | refine blk_drew ?_ | refine blk_alloc ?_ _)); refine blk_put (cs := #[.int .i64 ((rd_T32 l0 x20_2).f0), .int .i64 ((rd_T32 l0 x20_2).f1), .int .i64 0, .int .i64 0, .int .i64 0]) ?_ 2 _ rfl; (with_reducible repeat (first | refine blk_drewN ?_ _ | refine blk_drew ?_ | refine blk_alloc ?_ _)); refine blk_put (cs := #[.int .i64 ((rd_T32 l0 x20_2).f0), .int .i64 0, .int .i64 0, .int .i64 0, .int .i64 0]) ?_ 1 _ rfl; (with_reducible repeat (first | refine blk_drewN ?_ _ | refine blk_drew ?_ | refine blk_alloc ?_ _)); refine blk_put (cs := #[.int .i64 0, .int .i64 0, .int .i64 0, .int .i64 0, .int .i64 0]) ?_ 0 _ rfl; (with_reducible repeat (first | refine blk_drewN ?_ _ | refine blk_drew ?_ | refine blk_alloc ?_ _)); exact BK225.out))⟩; have n2_ : Aside0 (Below w.heap.size w w27) := ⟨(by rw [hw]; exact (upB1 HB.out GE225.out))⟩; clear hw; clear HO_9; clear BK225; clear HB; have HO_9 := n0_; have BK225 := n1_; have HB := n2_; clear n0_ n1_ n2_; obtain ⟨ad226, e226, hx226_0, p226, q226⟩ := zi HR1 HB x20_2; cases e226; have hcz28_0 := ci BK225.out 0 ((rd_T32 l0 x20_2).f0) rfl; have hcz28_1 := ci BK225.out 1 ((rd_T32 l0 x20_2).f1) rfl; have hcz28_2 := ci BK225.out 2 ((rd_T32 l0 x20_2).f2) rfl; have hcz28_3 := ci BK225.out 3 ((rd_T32 l0 x20_2).f3) rfl; have hcz28_4 := ci BK225.out 4 ((rd_T32 l0 x20_2).f4) rfl; have hfz28_0 := fun j_ : Nat => blk_frozen BK225.out j_; have e8_ : (x9_2.length : Int) = 8 := (by have := HL8.out; omega); have p227 : 0 ≤ (((rd_T32 l0 x20_2).f0) : Int) := of_decide_eq_true asmB; have q227 : ((rd_T32 l0 x20_2).f0) < (x9_2.length : Int) := of_decide_eq_true asmB; obtain ⟨ad227, e227, hx227_0⟩ := Kd.at_bool (Kd.R_reads' HO_9.out).2.2 ((rd_T32 l0 x20_2).f0) p227 q227; obtain rfl : (⟨go7, 0, none⟩ : Addr) = ad227 := (by injection e227); (first | simp only [add_plain] at hx227_0 | simp only [add_at] at hx227_0 | simp only [Addr.add, Nat.zero_add] at hx227_0 | skip); replace p227 := eq_true p227; rw [e8_] at q227; replace q227 := eq_true q227; have p228 : 0 ≤ (((rd_T32 l0 x20_2).f1) : Int) := of_decide_eq_true asmB; have q228 : ((rd_T32 l0 x20_2).f1) < (x9_2.length : Int) := of_decide_eq_true asmB; obtain ⟨ad228, e228, hx228_0⟩ := Kd.at_bool (Kd.R_reads' HO_9.out).2.2 ((rd_T32 l0 x20_2).f1) p228 q228; obtain rfl : (⟨go7, 0, none⟩ : Addr) = ad228 := (by injection e228); (first | simp only [add_plain] at hx228_0 | simp only [add_at] at hx228_0 | simp only [Addr.add, Nat.zero_add] at hx228_0 | skip); replace p228 := eq_true p228; rw [e8_] at q228; replace q228 := eq_true q228)))
         (try simp only [← hl9_2])
         go_roundg k2
         case measure => have := HK1.out; have := HK2.out; omega
         case rel => exact ⟨(x9_2), (wrap64 (x20_2 + 1)), (by first | rfl | (simp; done) | (simp [*]; done)), H', ⟨by have := HK1.out; have := HK2.out; omega⟩, ⟨by (try simp only [hl9_1]); (try simp only [hl9_2]); (with_reducible repeat (first | apply Kd.R_alloc | apply Kd.R_drewN | apply Kd.R_drew)); exact HO_9.out⟩, ⟨(upB1 HB.out GE225.out)⟩⟩
       ·rw [if_neg c17] at H
        have c17b0 : decide (a3 ≤ (rd l1 x20_2)) = false := decide_eq_false c17
        clear c17
        have H' := Aside0.mk H
        clear H
        obtain ⟨ad224, e224, hx224_0, hx224_1, hx224_2, hx224_3, hx224_4, p224, q224⟩ := zT HR0 HB x20_2
        cases e224
        go_wp2_with (first | ((with_reducible refine gate_dst (N := 11) rfl ?_); refine box_event ?hg (N := 11) ?hd (cs := #[.int .i64 0, .int .i64 0, .int .i64 0, .int .i64 0, .int .i64 0]) (t := 32) ?hr ?_; (case hd => rfl); (case hg => rfl); (case hr => first | (go_simp; done) | (go_simp; rfl)); intro gb225 hg w35 hbox hb; have n0_ := Aside0.mk (Kd.R_below (upR HO_9.out) hb); have n1_ := Aside0.mk (below_step (upB HB.out) hb); have n2_ := Aside0.mk (hbox); have n3_ := Aside0.mk ((by rw [hg]; exact (below_size (upB HB.out)) : w.heap.size ≤ gb225)); have n4_ := Aside0.mk ((by rw [hg]; exact (below_size (upB HB.out)) : w.heap.size ≤ gb225)); clear HO_9; clear HB; have HO_9 := n0_; have HB := n1_; have BK225 := n2_; have GW225 := n3_; have GE225 := n4_; clear n0_ n1_ n2_ n3_ n4_; clear hb hbox hg; have hcz36_0 := ci BK225.out 0 0 rfl; have hcz36_1 := ci BK225.out 1 0 rfl; have hcz36_2 := ci BK225.out 2 0 rfl; have hcz36_3 := ci BK225.out 3 0 rfl; have hcz36_4 := ci BK225.out 4 0 rfl; have hfz36_0 := fun j_ : Nat => blk_frozen BK225.out j_; have p226 : 0 ≤ (x20_2 : Int) := of_decide_eq_true asmB; have q226 : x20_2 < (l1.length : Int) := of_decide_eq_true asmB; obtain ⟨ad226, e226, hx226_0⟩ := Kd.at_int HR1.out x20_2 p226 q226; cases e226; have hn226_0 : ad226.block ≠ gb225 := Nat.ne_of_lt (Nat.lt_of_lt_of_le (by have := World.block_lt_of_cell? _ _ hx226_0; first | rwa [add_block] at this | exact this) GW225.out); have hn226_1 : ad226.block ≠ gb225 := Nat.ne_of_lt (Nat.lt_of_lt_of_le (by have := World.block_lt_of_cell? _ _ hx226_0; first | rwa [add_block] at this | exact this) GW225.out); have hn226_2 : ad226.block ≠ gb225 := Nat.ne_of_lt (Nat.lt_of_lt_of_le (by have := World.block_lt_of_cell? _ _ hx226_0; first | rwa [add_block] at this | exact this) GW225.out); have hn226_3 : ad226.block ≠ gb225 := Nat.ne_of_lt (Nat.lt_of_lt_of_le (by have := World.block_lt_of_cell? _ _ hx226_0; first | rwa [add_block] at this | exact this) GW225.out); have hn226_4 : ad226.block ≠ gb225 := Nat.ne_of_lt (Nat.lt_of_lt_of_le (by have := World.block_lt_of_cell? _ _ hx226_0; first | rwa [add_block] at this | exact this) GW225.out); replace hx226_0 := bx HB.out hx226_0; replace hx226_0 := (cell_far (p := ⟨gb225, 0, none⟩) (by first | (rw [add_block]; exact hn226_0) | (show (Addr.add _ _).block ≠ _; rw [add_block]; exact hn226_0) | exact hn226_0) (.int .i64 ((rd_T32 l0 x20_2).f0))).trans hx226_0; replace hx226_0 := (cell_far (p := ⟨gb225, 1, none⟩) (by first | (rw [add_block]; exact hn226_1) | (show (Addr.add _ _).block ≠ _; rw [add_block]; exact hn226_1) | exact hn226_1) (.int .i64 ((rd_T32 l0 x20_2).f1))).trans hx226_0; replace hx226_0 := (cell_far (p := ⟨gb225, 2, none⟩) (by first | (rw [add_block]; exact hn226_2) | (show (Addr.add _ _).block ≠ _; rw [add_block]; exact hn226_2) | exact hn226_2) (.int .i64 ((rd_T32 l0 x20_2).f2))).trans hx226_0; replace hx226_0 := (cell_far (p := ⟨gb225, 3, none⟩) (by first | (rw [add_block]; exact hn226_3) | (show (Addr.add _ _).block ≠ _; rw [add_block]; exact hn226_3) | exact hn226_3) (.int .i64 ((rd_T32 l0 x20_2).f3))).trans hx226_0; replace hx226_0 := (cell_far (p := ⟨gb225, 4, none⟩) (by first | (rw [add_block]; exact hn226_4) | (show (Addr.add _ _).block ≠ _; rw [add_block]; exact hn226_4) | exact hn226_4) (.int .i64 ((rd_T32 l0 x20_2).f4))).trans hx226_0; (try have hy226_0 := fun (n_ : Nat) => (show (((((((w35.drewN n_).setCell ⟨gb225, 0, none⟩ (.int .i64 ((rd_T32 l0 x20_2).f0))).setCell ⟨gb225, 1, none⟩ (.int .i64 ((rd_T32 l0 x20_2).f1))).setCell ⟨gb225, 2, none⟩ (.int .i64 ((rd_T32 l0 x20_2).f2))).setCell ⟨gb225, 3, none⟩ (.int .i64 ((rd_T32 l0 x20_2).f3))).setCell ⟨gb225, 4, none⟩ (.int .i64 ((rd_T32 l0 x20_2).f4)))).cell? _ = some _ from hx226_0)); clear hn226_0; clear hn226_1; clear hn226_2; clear hn226_3; clear hn226_4; replace p226 := eq_true p226; replace q226 := eq_true q226))
        repeat (go_quiet (first | ((with_reducible refine gate_dst (N := 11) rfl ?_); refine box_event ?hg (N := 11) ?hd (cs := #[.int .i64 0, .int .i64 0, .int .i64 0, .int .i64 0, .int .i64 0]) (t := 32) ?hr ?_; (case hd => rfl); (case hg => rfl); (case hr => first | (go_simp; done) | (go_simp; rfl)); intro gb225 hg w35 hbox hb; have n0_ := Aside0.mk (Kd.R_below (upR HO_9.out) hb); have n1_ := Aside0.mk (below_step (upB HB.out) hb); have n2_ := Aside0.mk (hbox); have n3_ := Aside0.mk ((by rw [hg]; exact (below_size (upB HB.out)) : w.heap.size ≤ gb225)); have n4_ := Aside0.mk ((by rw [hg]; exact (below_size (upB HB.out)) : w.heap.size ≤ gb225)); clear HO_9; clear HB; have HO_9 := n0_; have HB := n1_; have BK225 := n2_; have GW225 := n3_; have GE225 := n4_; clear n0_ n1_ n2_ n3_ n4_; clear hb hbox hg; have hcz36_0 := ci BK225.out 0 0 rfl; have hcz36_1 := ci BK225.out 1 0 rfl; have hcz36_2 := ci BK225.out 2 0 rfl; have hcz36_3 := ci BK225.out 3 0 rfl; have hcz36_4 := ci BK225.out 4 0 rfl; have hfz36_0 := fun j_ : Nat => blk_frozen BK225.out j_; have p226 : 0 ≤ (x20_2 : Int) := of_decide_eq_true asmB; have q226 : x20_2 < (l1.length : Int) := of_decide_eq_true asmB; obtain ⟨ad226, e226, hx226_0⟩ := Kd.at_int HR1.out x20_2 p226 q226; cases e226; have hn226_0 : ad226.block ≠ gb225 := Nat.ne_of_lt (Nat.lt_of_lt_of_le (by have := World.block_lt_of_cell? _ _ hx226_0; first | rwa [add_block] at this | exact this) GW225.out); have hn226_1 : ad226.block ≠ gb225 := Nat.ne_of_lt (Nat.lt_of_lt_of_le (by have := World.block_lt_of_cell? _ _ hx226_0; first | rwa [add_block] at this | exact this) GW225.out); have hn226_2 : ad226.block ≠ gb225 := Nat.ne_of_lt (Nat.lt_of_lt_of_le (by have := World.block_lt_of_cell? _ _ hx226_0; first | rwa [add_block] at this | exact this) GW225.out); have hn226_3 : ad226.block ≠ gb225 := Nat.ne_of_lt (Nat.lt_of_lt_of_le (by have := World.block_lt_of_cell? _ _ hx226_0; first | rwa [add_block] at this | exact this) GW225.out); have hn226_4 : ad226.block ≠ gb225 := Nat.ne_of_lt (Nat.lt_of_lt_of_le (by have := World.block_lt_of_cell? _ _ hx226_0; first | rwa [add_block] at this | exact this) GW225.out); replace hx226_0 := bx HB.out hx226_0; replace hx226_0 := (cell_far (p := ⟨gb225, 0, none⟩) (by first | (rw [add_block]; exact hn226_0) | (show (Addr.add _ _).block ≠ _; rw [add_block]; exact hn226_0) | exact hn226_0) (.int .i64 ((rd_T32 l0 x20_2).f0))).trans hx226_0; replace hx226_0 := (cell_far (p := ⟨gb225, 1, none⟩) (by first | (rw [add_block]; exact hn226_1) | (show (Addr.add _ _).block ≠ _; rw [add_block]; exact hn226_1) | exact hn226_1) (.int .i64 ((rd_T32 l0 x20_2).f1))).trans hx226_0; replace hx226_0 := (cell_far (p := ⟨gb225, 2, none⟩) (by first | (rw [add_block]; exact hn226_2) | (show (Addr.add _ _).block ≠ _; rw [add_block]; exact hn226_2) | exact hn226_2) (.int .i64 ((rd_T32 l0 x20_2).f2))).trans hx226_0; replace hx226_0 := (cell_far (p := ⟨gb225, 3, none⟩) (by first | (rw [add_block]; exact hn226_3) | (show (Addr.add _ _).block ≠ _; rw [add_block]; exact hn226_3) | exact hn226_3) (.int .i64 ((rd_T32 l0 x20_2).f3))).trans hx226_0; replace hx226_0 := (cell_far (p := ⟨gb225, 4, none⟩) (by first | (rw [add_block]; exact hn226_4) | (show (Addr.add _ _).block ≠ _; rw [add_block]; exact hn226_4) | exact hn226_4) (.int .i64 ((rd_T32 l0 x20_2).f4))).trans hx226_0; (try have hy226_0 := fun (n_ : Nat) => (show (((((((w35.drewN n_).setCell ⟨gb225, 0, none⟩ (.int .i64 ((rd_T32 l0 x20_2).f0))).setCell ⟨gb225, 1, none⟩ (.int .i64 ((rd_T32 l0 x20_2).f1))).setCell ⟨gb225, 2, none⟩ (.int .i64 ((rd_T32 l0 x20_2).f2))).setCell ⟨gb225, 3, none⟩ (.int .i64 ((rd_T32 l0 x20_2).f3))).setCell ⟨gb225, 4, none⟩ (.int .i64 ((rd_T32 l0 x20_2).f4)))).cell? _ = some _ from hx226_0)); clear hn226_0; clear hn226_1; clear hn226_2; clear hn226_3; clear hn226_4; replace p226 := eq_true p226; replace q226 := eq_true q226)); try go_wp2_with (first | ((with_reducible refine gate_dst (N := 11) rfl ?_); refine box_event ?hg (N := 11) ?hd (cs := #[.int .i64 0, .int .i64 0, .int .i64 0, .int .i64 0, .int .i64 0]) (t := 32) ?hr ?_; (case hd => rfl); (case hg => rfl); (case hr => first | (go_simp; done) | (go_simp; rfl)); intro gb225 hg w35 hbox hb; have n0_ := Aside0.mk (Kd.R_below (upR HO_9.out) hb); have n1_ := Aside0.mk (below_step (upB HB.out) hb); have n2_ := Aside0.mk (hbox); have n3_ := Aside0.mk ((by rw [hg]; exact (below_size (upB HB.out)) : w.heap.size ≤ gb225)); have n4_ := Aside0.mk ((by rw [hg]; exact (below_size (upB HB.out)) : w.heap.size ≤ gb225)); clear HO_9; clear HB; have HO_9 := n0_; have HB := n1_; have BK225 := n2_; have GW225 := n3_; have GE225 := n4_; clear n0_ n1_ n2_ n3_ n4_; clear hb hbox hg; have hcz36_0 := ci BK225.out 0 0 rfl; have hcz36_1 := ci BK225.out 1 0 rfl; have hcz36_2 := ci BK225.out 2 0 rfl; have hcz36_3 := ci BK225.out 3 0 rfl; have hcz36_4 := ci BK225.out 4 0 rfl; have hfz36_0 := fun j_ : Nat => blk_frozen BK225.out j_; have p226 : 0 ≤ (x20_2 : Int) := of_decide_eq_true asmB; have q226 : x20_2 < (l1.length : Int) := of_decide_eq_true asmB; obtain ⟨ad226, e226, hx226_0⟩ := Kd.at_int HR1.out x20_2 p226 q226; cases e226; have hn226_0 : ad226.block ≠ gb225 := Nat.ne_of_lt (Nat.lt_of_lt_of_le (by have := World.block_lt_of_cell? _ _ hx226_0; first | rwa [add_block] at this | exact this) GW225.out); have hn226_1 : ad226.block ≠ gb225 := Nat.ne_of_lt (Nat.lt_of_lt_of_le (by have := World.block_lt_of_cell? _ _ hx226_0; first | rwa [add_block] at this | exact this) GW225.out); have hn226_2 : ad226.block ≠ gb225 := Nat.ne_of_lt (Nat.lt_of_lt_of_le (by have := World.block_lt_of_cell? _ _ hx226_0; first | rwa [add_block] at this | exact this) GW225.out); have hn226_3 : ad226.block ≠ gb225 := Nat.ne_of_lt (Nat.lt_of_lt_of_le (by have := World.block_lt_of_cell? _ _ hx226_0; first | rwa [add_block] at this | exact this) GW225.out); have hn226_4 : ad226.block ≠ gb225 := Nat.ne_of_lt (Nat.lt_of_lt_of_le (by have := World.block_lt_of_cell? _ _ hx226_0; first | rwa [add_block] at this | exact this) GW225.out); replace hx226_0 := bx HB.out hx226_0; replace hx226_0 := (cell_far (p := ⟨gb225, 0, none⟩) (by first | (rw [add_block]; exact hn226_0) | (show (Addr.add _ _).block ≠ _; rw [add_block]; exact hn226_0) | exact hn226_0) (.int .i64 ((rd_T32 l0 x20_2).f0))).trans hx226_0; replace hx226_0 := (cell_far (p := ⟨gb225, 1, none⟩) (by first | (rw [add_block]; exact hn226_1) | (show (Addr.add _ _).block ≠ _; rw [add_block]; exact hn226_1) | exact hn226_1) (.int .i64 ((rd_T32 l0 x20_2).f1))).trans hx226_0; replace hx226_0 := (cell_far (p := ⟨gb225, 2, none⟩) (by first | (rw [add_block]; exact hn226_2) | (show (Addr.add _ _).block ≠ _; rw [add_block]; exact hn226_2) | exact hn226_2) (.int .i64 ((rd_T32 l0 x20_2).f2))).trans hx226_0; replace hx226_0 := (cell_far (p := ⟨gb225, 3, none⟩) (by first | (rw [add_block]; exact hn226_3) | (show (Addr.add _ _).block ≠ _; rw [add_block]; exact hn226_3) | exact hn226_3) (.int .i64 ((rd_T32 l0 x20_2).f3))).trans hx226_0; replace hx226_0 := (cell_far (p := ⟨gb225, 4, none⟩) (by first | (rw [add_block]; exact hn226_4) | (show (Addr.add _ _).block ≠ _; rw [add_block]; exact hn226_4) | exact hn226_4) (.int .i64 ((rd_T32 l0 x20_2).f4))).trans hx226_0; (try have hy226_0 := fun (n_ : Nat) => (show (((((((w35.drewN n_).setCell ⟨gb225, 0, none⟩ (.int .i64 ((rd_T32 l0 x20_2).f0))).setCell ⟨gb225, 1, none⟩ (.int .i64 ((rd_T32 l0 x20_2).f1))).setCell ⟨gb225, 2, none⟩ (.int .i64 ((rd_T32 l0 x20_2).f2))).setCell ⟨gb225, 3, none⟩ (.int .i64 ((rd_T32 l0 x20_2).f3))).setCell ⟨gb225, 4, none⟩ (.int .i64 ((rd_T32 l0 x20_2).f4)))).cell? _ = some _ from hx226_0)); clear hn226_0; clear hn226_1; clear hn226_2; clear hn226_3; clear hn226_4; replace p226 := eq_true p226; replace q226 := eq_true q226)))
        (try simp only [← hl9_2])
        go_roundg k2
        case measure => have := HK1.out; have := HK2.out; omega
        case rel => exact ⟨(x9_2), (wrap64 (x20_2 + 1)), (by first | rfl | (simp; done) | (simp [*]; done)), H', ⟨by have := HK1.out; have := HK2.out; omega⟩, ⟨by (try simp only [hl9_1]); (try simp only [hl9_2]); (with_reducible repeat (first | apply Kd.R_alloc | apply Kd.R_drewN | apply Kd.R_drew)); exact Kd.R_mono (zF (Kd.R_types HO_9.out BK225.out (by decide))) (fun _ hk => trivial)⟩, ⟨(upB1 HB.out GE225.out)⟩⟩
      ·rw [if_neg c13] at H
       have c13b0 : decide (x20_2 < (l0.length : Int)) = false := decide_eq_false c13
       clear c13
       have H' := Aside0.mk H
       clear H
       go_wp2
       (try simp only [← hl9_1, ← hl9_2])
       go_roundg k2
       case measure => have := HK1.out; have := HK2.out; omega
       case rel => exact ⟨(x9_2), (wrap64 (x16_1 + 1)), (by first | rfl | (simp; done) | (simp [*]; done)), H', ⟨by have := HK1.out; have := HK2.out; omega⟩, ⟨by (try simp only [hl9_1]); (try simp only [hl9_2]); (with_reducible repeat (first | apply Kd.R_alloc | apply Kd.R_drewN | apply Kd.R_drew)); exact HO_9.out⟩, ⟨(upB HB.out)⟩⟩
   ·rw [if_neg c12] at H
    have c12b0 : decide (x16_1 < (l0.length : Int)) = false := decide_eq_false c12
    clear c12
    obtain rfl := Option.some.inj H
    have hr8 : x9_1.length = 8 := HL9.out
    have hq : ∀ i : Nat, i < 8 → wr.cell? ⟨go7, i, none⟩ = some (.bool (x9_1.getD i false)) := fun i hi => by
     have h_ := (Kd.R_cell false HO_9.out (i : Int) (by omega) (by omega)).1
     rw [Int.toNat_natCast] at h_
     rw [h_]
     rfl
    have hq0 : wr.cell? ⟨go7, 0, none⟩ = some (.bool (x9_1.getD 0 false)) := hq 0 (by decide)
    obtain ⟨b0, hb0⟩ : ∃ b : Bool, b = x9_1.getD 0 false := ⟨_, rfl⟩
    rw [← hb0] at hq0
    have HB0 := Aside0.mk hb0
    clear hb0
    have hq1 : wr.cell? ⟨go7, 1, none⟩ = some (.bool (x9_1.getD 1 false)) := hq 1 (by decide)
    obtain ⟨b1, hb1⟩ : ∃ b : Bool, b = x9_1.getD 1 false := ⟨_, rfl⟩
    rw [← hb1] at hq1
    have HB1 := Aside0.mk hb1
    clear hb1
    have hq2 : wr.cell? ⟨go7, 2, none⟩ = some (.bool (x9_1.getD 2 false)) := hq 2 (by decide)
    obtain ⟨b2, hb2⟩ : ∃ b : Bool, b = x9_1.getD 2 false := ⟨_, rfl⟩
    rw [← hb2] at hq2
    have HB2 := Aside0.mk hb2
    clear hb2
    have hq3 : wr.cell? ⟨go7, 3, none⟩ = some (.bool (x9_1.getD 3 false)) := hq 3 (by decide)
    obtain ⟨b3, hb3⟩ : ∃ b : Bool, b = x9_1.getD 3 false := ⟨_, rfl⟩
    rw [← hb3] at hq3
    have HB3 := Aside0.mk hb3
    clear hb3
    have hq4 : wr.cell? ⟨go7, 4, none⟩ = some (.bool (x9_1.getD 4 false)) := hq 4 (by decide)
    obtain ⟨b4, hb4⟩ : ∃ b : Bool, b = x9_1.getD 4 false := ⟨_, rfl⟩
    rw [← hb4] at hq4
    have HB4 := Aside0.mk hb4
    clear hb4
    have hq5 : wr.cell? ⟨go7, 5, none⟩ = some (.bool (x9_1.getD 5 false)) := hq 5 (by decide)
    obtain ⟨b5, hb5⟩ : ∃ b : Bool, b = x9_1.getD 5 false := ⟨_, rfl⟩
    rw [← hb5] at hq5
    have HB5 := Aside0.mk hb5
    clear hb5
    have hq6 : wr.cell? ⟨go7, 6, none⟩ = some (.bool (x9_1.getD 6 false)) := hq 6 (by decide)
    obtain ⟨b6, hb6⟩ : ∃ b : Bool, b = x9_1.getD 6 false := ⟨_, rfl⟩
    rw [← hb6] at hq6
    have HB6 := Aside0.mk hb6
    clear hb6
    have hq7 : wr.cell? ⟨go7, 7, none⟩ = some (.bool (x9_1.getD 7 false)) := hq 7 (by decide)
    obtain ⟨b7, hb7⟩ : ∃ b : Bool, b = x9_1.getD 7 false := ⟨_, rfl⟩
    rw [← hb7] at hq7
    have HB7 := Aside0.mk hb7
    clear hb7
    have HX := Aside0.mk (blk_below HX8.out HB.out)
    have hz0 : wr.cell? ⟨g8, 0, none⟩ = some (.bool false) := (blk_cell HX.out 0).trans rfl
    have hf0 : wr.frozen? ⟨g8, 0, none⟩ = false := blk_frozen HX.out 0
    have hz1 : wr.cell? ⟨g8, 1, none⟩ = some (.bool false) := (blk_cell HX.out 1).trans rfl
    have hf1 : wr.frozen? ⟨g8, 1, none⟩ = false := blk_frozen HX.out 1
    have hz2 : wr.cell? ⟨g8, 2, none⟩ = some (.bool false) := (blk_cell HX.out 2).trans rfl
    have hf2 : wr.frozen? ⟨g8, 2, none⟩ = false := blk_frozen HX.out 2
    have hz3 : wr.cell? ⟨g8, 3, none⟩ = some (.bool false) := (blk_cell HX.out 3).trans rfl
    have hf3 : wr.frozen? ⟨g8, 3, none⟩ = false := blk_frozen HX.out 3
    have hz4 : wr.cell? ⟨g8, 4, none⟩ = some (.bool false) := (blk_cell HX.out 4).trans rfl
    have hf4 : wr.frozen? ⟨g8, 4, none⟩ = false := blk_frozen HX.out 4
    have hz5 : wr.cell? ⟨g8, 5, none⟩ = some (.bool false) := (blk_cell HX.out 5).trans rfl
    have hf5 : wr.frozen? ⟨g8, 5, none⟩ = false := blk_frozen HX.out 5
    have hz6 : wr.cell? ⟨g8, 6, none⟩ = some (.bool false) := (blk_cell HX.out 6).trans rfl
    have hf6 : wr.frozen? ⟨g8, 6, none⟩ = false := blk_frozen HX.out 6
    have hz7 : wr.cell? ⟨g8, 7, none⟩ = some (.bool false) := (blk_cell HX.out 7).trans rfl
    have hf7 : wr.frozen? ⟨g8, 7, none⟩ = false := blk_frozen HX.out 7
    clear hq hr8
    go_wp2
    (try simp only [Exit.inBlock, Exit.then])
    refine bodyPost_ret (results_cell_row rfl _ _ g8 64 #[.bool b0, .bool b1, .bool b2, .bool b3, .bool b4, .bool b5, .bool b6, .bool b7] (0, 0) _ rfl (by refine blk_put (cs := #[.bool b0, .bool b1, .bool b2, .bool b3, .bool b4, .bool b5, .bool b6, .bool false]) ?_ 7 _ rfl; refine blk_put (cs := #[.bool b0, .bool b1, .bool b2, .bool b3, .bool b4, .bool b5, .bool false, .bool false]) ?_ 6 _ rfl; refine blk_put (cs := #[.bool b0, .bool b1, .bool b2, .bool b3, .bool b4, .bool false, .bool false, .bool false]) ?_ 5 _ rfl; refine blk_put (cs := #[.bool b0, .bool b1, .bool b2, .bool b3, .bool false, .bool false, .bool false, .bool false]) ?_ 4 _ rfl; refine blk_put (cs := #[.bool b0, .bool b1, .bool b2, .bool false, .bool false, .bool false, .bool false, .bool false]) ?_ 3 _ rfl; refine blk_put (cs := #[.bool b0, .bool b1, .bool false, .bool false, .bool false, .bool false, .bool false, .bool false]) ?_ 2 _ rfl; refine blk_put (cs := #[.bool b0, .bool false, .bool false, .bool false, .bool false, .bool false, .bool false, .bool false]) ?_ 1 _ rfl; refine blk_put (cs := #[.bool false, .bool false, .bool false, .bool false, .bool false, .bool false, .bool false, .bool false]) ?_ 0 _ rfl; exact HX.out) Tryz.underlying64 rfl (by kernel_rfl)) rfl ?_
    refine ⟨?_, HL9.out, ?_⟩
    ·have hr8 := HL9.out
     clear HO_9 hl9_1 HL9
     have hb0 := HB0.out
     have hb1 := HB1.out
     have hb2 := HB2.out
     have hb3 := HB3.out
     have hb4 := HB4.out
     have hb5 := HB5.out
     have hb6 := HB6.out
     have hb7 := HB7.out
     clear HB0 HB1 HB2 HB3 HB4 HB5 HB6 HB7
     obtain ⟨y0, y1, y2, y3, y4, y5, y6, y7, e_⟩ := list8 x9_1 hr8
     rw [e_] at hb0 hb1 hb2 hb3 hb4 hb5 hb6 hb7 ⊢
     obtain rfl : b0 = y0 := hb0
     obtain rfl : b1 = y1 := hb1
     obtain rfl : b2 = y2 := hb2
     obtain rfl : b3 = y3 := hb3
     obtain rfl : b4 = y4 := hb4
     obtain rfl : b5 = y5 := hb5
     obtain rfl : b6 = y6 := hb6
     obtain rfl : b7 = y7 := hb7
     rfl
    ·refine below_set ?_ HG8.out; refine below_set ?_ HG8.out; refine below_set ?_ HG8.out; refine below_set ?_ HG8.out; refine below_set ?_ HG8.out; refine below_set ?_ HG8.out; refine below_set ?_ HG8.out; refine below_set ?_ HG8.out; exact below_step HBA.out HB.out

/-! ### impl_xPick: function 125 -/
-- calls: none
theorem cellB {w W : World} {a : Addr} {v : Value} (hb : Below w.heap.size w W) (h : w.cell? a = some v) : W.cell? a = some v := (hb.cell (World.block_lt_of_cell? w _ h)).trans h
def bitsV (m : Int) : Value := .agg #[.bool (decide (m % 2 = 1)), .bool (decide (m / 2 % 2 = 1)), .bool (decide (m / 4 % 2 = 1)), .bool (decide (m / 8 % 2 = 1)), .bool (decide (m / 16 % 2 = 1)), .bool (decide (m / 32 % 2 = 1)), .bool (decide (m / 64 % 2 = 1)), .bool (decide (m / 128 % 2 = 1))]
def impl_xPick.f (m i : Int) : Option Bool := if 0 ≤ i ∧ i < 8 then some (decide (m / 2 ^ i.toNat % 2 = 1)) else none
theorem pick8_0 (b0 b1 b2 b3 b4 b5 b6 b7 : Bool) : ∀ w, (Instr.index 64 (.agg #[.bool b0, .bool b1, .bool b2, .bool b3, .bool b4, .bool b5, .bool b6, .bool b7]) (.int .i64 0)).run Tryz.prog w = .ok (.bool b0) w := fun _ => by kernel_rfl
theorem pick8_1 (b0 b1 b2 b3 b4 b5 b6 b7 : Bool) : ∀ w, (Instr.index 64 (.agg #[.bool b0, .bool b1, .bool b2, .bool b3, .bool b4, .bool b5, .bool b6, .bool b7]) (.int .i64 1)).run Tryz.prog w = .ok (.bool b1) w := fun _ => by kernel_rfl
theorem pick8_2 (b0 b1 b2 b3 b4 b5 b6 b7 : Bool) : ∀ w, (Instr.index 64 (.agg #[.bool b0, .bool b1, .bool b2, .bool b3, .bool b4, .bool b5, .bool b6, .bool b7]) (.int .i64 2)).run Tryz.prog w = .ok (.bool b2) w := fun _ => by kernel_rfl
theorem pick8_3 (b0 b1 b2 b3 b4 b5 b6 b7 : Bool) : ∀ w, (Instr.index 64 (.agg #[.bool b0, .bool b1, .bool b2, .bool b3, .bool b4, .bool b5, .bool b6, .bool b7]) (.int .i64 3)).run Tryz.prog w = .ok (.bool b3) w := fun _ => by kernel_rfl
theorem pick8_4 (b0 b1 b2 b3 b4 b5 b6 b7 : Bool) : ∀ w, (Instr.index 64 (.agg #[.bool b0, .bool b1, .bool b2, .bool b3, .bool b4, .bool b5, .bool b6, .bool b7]) (.int .i64 4)).run Tryz.prog w = .ok (.bool b4) w := fun _ => by kernel_rfl
theorem pick8_5 (b0 b1 b2 b3 b4 b5 b6 b7 : Bool) : ∀ w, (Instr.index 64 (.agg #[.bool b0, .bool b1, .bool b2, .bool b3, .bool b4, .bool b5, .bool b6, .bool b7]) (.int .i64 5)).run Tryz.prog w = .ok (.bool b5) w := fun _ => by kernel_rfl
theorem pick8_6 (b0 b1 b2 b3 b4 b5 b6 b7 : Bool) : ∀ w, (Instr.index 64 (.agg #[.bool b0, .bool b1, .bool b2, .bool b3, .bool b4, .bool b5, .bool b6, .bool b7]) (.int .i64 6)).run Tryz.prog w = .ok (.bool b6) w := fun _ => by kernel_rfl
theorem pick8_7 (b0 b1 b2 b3 b4 b5 b6 b7 : Bool) : ∀ w, (Instr.index 64 (.agg #[.bool b0, .bool b1, .bool b2, .bool b3, .bool b4, .bool b5, .bool b6, .bool b7]) (.int .i64 7)).run Tryz.prog w = .ok (.bool b7) w := fun _ => by kernel_rfl
theorem impl_xPick.index (m i : Int) (r : Bool) (h : impl_xPick.f m i = some r) : ∀ w, (Instr.index 64 (bitsV m) (.int .i64 i)).run Tryz.prog w = .ok (.bool r) w := by
 unfold impl_xPick.f at h
 by_cases c : 0 ≤ i ∧ i < 8
 ·rw [if_pos c] at h
  obtain rfl := Option.some.inj h
  intro w
  have hi : i = 0 ∨ i = 1 ∨ i = 2 ∨ i = 3 ∨ i = 4 ∨ i = 5 ∨ i = 6 ∨ i = 7 := by omega
  unfold bitsV
  rcases hi with rfl | rfl | rfl | rfl | rfl | rfl | rfl | rfl
  ·rw [pick8_0]; simp
  ·rw [pick8_1]; simp
  ·rw [pick8_2]; simp
  ·rw [pick8_3]; simp
  ·rw [pick8_4]; simp
  ·rw [pick8_5]; simp
  ·rw [pick8_6]; simp
  ·rw [pick8_7]; simp
 ·rw [if_neg c] at h; cases h

/-! ### impl_xReach: function 126 -/
-- calls: none
-- reaches: impl.reach
def bitsM (S : List Bool) : Int := S.foldr (fun b m => (if b then 1 else 0) + 2 * m) 0
def impl_xReach.f (k : Nat) (l0 : List (S32)) (l1 : List Int) (a2 a3 : Int) : Option Int := (impl_reach.f k l0 l1 a2 a3).bind fun S => if S.length = 8 then some (bitsM S) else none
theorem impl_xReach.mono : ∀ a0 a1 a2 a3 k, LeO (impl_xReach.f k a0 a1 a2 a3) (impl_xReach.f (k + 1) a0 a1 a2 a3) := fun a0 a1 a2 a3 k => LeO.bind (impl_reach.mono _ _ _ _ _) (fun _ => LeO.refl _)
theorem bits8 : ∀ b0 b1 b2 b3 b4 b5 b6 b7 : Bool, [decide (bitsM [b0, b1, b2, b3, b4, b5, b6, b7] % 2 = 1), decide (bitsM [b0, b1, b2, b3, b4, b5, b6, b7] / 2 % 2 = 1), decide (bitsM [b0, b1, b2, b3, b4, b5, b6, b7] / 4 % 2 = 1), decide (bitsM [b0, b1, b2, b3, b4, b5, b6, b7] / 8 % 2 = 1), decide (bitsM [b0, b1, b2, b3, b4, b5, b6, b7] / 16 % 2 = 1), decide (bitsM [b0, b1, b2, b3, b4, b5, b6, b7] / 32 % 2 = 1), decide (bitsM [b0, b1, b2, b3, b4, b5, b6, b7] / 64 % 2 = 1), decide (bitsM [b0, b1, b2, b3, b4, b5, b6, b7] / 128 % 2 = 1)] = [b0, b1, b2, b3, b4, b5, b6, b7] := by decide +kernel
theorem bits_arr (S : List Bool) (h : S.length = 8) : arrV S = bitsV (bitsM S) := by
 obtain ⟨b0, b1, b2, b3, b4, b5, b6, b7, rfl⟩ := list8 S h
 have e : bitsV (bitsM [b0, b1, b2, b3, b4, b5, b6, b7]) = arrV [decide (bitsM [b0, b1, b2, b3, b4, b5, b6, b7] % 2 = 1), decide (bitsM [b0, b1, b2, b3, b4, b5, b6, b7] / 2 % 2 = 1), decide (bitsM [b0, b1, b2, b3, b4, b5, b6, b7] / 4 % 2 = 1), decide (bitsM [b0, b1, b2, b3, b4, b5, b6, b7] / 8 % 2 = 1), decide (bitsM [b0, b1, b2, b3, b4, b5, b6, b7] / 16 % 2 = 1), decide (bitsM [b0, b1, b2, b3, b4, b5, b6, b7] / 32 % 2 = 1), decide (bitsM [b0, b1, b2, b3, b4, b5, b6, b7] / 64 % 2 = 1), decide (bitsM [b0, b1, b2, b3, b4, b5, b6, b7] / 128 % 2 = 1)] := rfl
 rw [e, bits8]
theorem impl_xReach.calls (k : Nat) (A0 : Option Addr) (c0 : Nat) (l0 : List (S32)) (A1 : Option Addr) (c1 : Nat) (l1 : List Int) (a2 a3 : Int) (r : Int) (w : World) (hr0 : Kd.C k32 w A0 l0.length l0) (hc0 : l0.length ≤ c0) (hr1 : Kd.C (Kd.int .i64) w A1 l1.length l1) (hc1 : l1.length ≤ c1) (h : impl_xReach.f k l0 l1 a2 a3 = some r) :
 Calls Tryz.prog 48 #[.slice A0 l0.length c0, .slice A1 l1.length c1, .int .i64 a2, .int .i64 a3] w fun e w' => e = .returned (bitsV r) ∧ Below w.heap.size w w' := by
 obtain ⟨S, hS, h⟩ := Option.bind_eq_some_iff.mp h
 refine (impl_reach.calls k A0 c0 l0 A1 c1 l1 a2 a3 S w hr0 hc0 hr1 hc1 hS).mono ?_
 rintro e w' ⟨rfl, h8, hb⟩
 rw [if_pos h8] at h
 rw [← Option.some.inj h]
 exact ⟨by rw [bits_arr S h8], hb⟩

/-! ### impl_xInCave: function 127 -/
-- calls: none
-- reaches: impl.has
def inCave (k : Nat) (s : Int) : List (List Int) → Int → Option Int
 | [], _ => some (-1)
 | c :: l, i => (impl_has.f k c s).bind fun t => if t = true then some i else inCave k s l (i + 1)
def impl_xInCave.f (k : Nat) (l0 : List (List Int)) (a1 : Int) : Option Bool := (inCave k a1 l0 0).bind fun q => some (decide (0 ≤ q))
theorem inCave.mono (k : Nat) (s : Int) : ∀ (l : List (List Int)) (i : Int), LeO (inCave k s l i) (inCave (k + 1) s l i) := by
 intro l
 induction l with
 | nil => intro i; exact LeO.refl _
 | cons c l ih =>
  intro i
  simp only [inCave]
  exact LeO.bind (impl_has.mono _ _ _) (fun _ => LeO.ite (LeO.refl _) (ih _))
theorem impl_xInCave.mono : ∀ a0 a1 k, LeO (impl_xInCave.f k a0 a1) (impl_xInCave.f (k + 1) a0 a1) := fun a0 a1 k => LeO.bind (inCave.mono k a1 a0 0) (fun _ => LeO.refl _)
theorem inCaveClosure (k : Nat) (A : Option Addr) (c : Nat) (x : List Int) (q : Int) (r : Bool) (b : Nat) (W : World) (hr : Kd.C (Kd.int .i64) W A x.length x) (hc : x.length ≤ c) (hb : W.cell? ⟨b, 0, none⟩ = some (.int .i64 q)) (h : impl_has.f k x q = some r) :
 Calls Tryz.prog 46 #[.slice A x.length c, .pointer (some ⟨b, 0, none⟩)] W fun e W' => e = .returned (.bool r) ∧ Below W.heap.size W W' := by
 have hcon := impl_has.calls k A c x q r W hr hc h
 have hl := World.block_lt_of_cell? W _ hb
 clear h hr hc
 go_enter Tryz.func46, Tryz.ntmps46
 go_wp2_with (go_at_call 47; refine hcon.mono ?_; rintro e w1 ⟨rfl, hb1⟩)
 go_ret
 obtain ⟨n, rfl⟩ := hb1
 exact ⟨rfl, pw_below_drewN (Below.refl _ _) n⟩
theorem drop17 {α : Type} (xs : List α) (i : Nat) (d : α) (h : i < xs.length) : xs.drop i = xs.getD i d :: xs.drop (i + 1) := by
 rw [List.drop_eq_getElem_cons h]
 simp [List.getD, List.getElem?_eq_getElem h]
set_option maxHeartbeats 4000000 in
set_option maxRecDepth 100000 in
theorem IndexFunc_inCave (k : Nat) (s : Int) (b : Nat) (A0 : Option Addr) (c0 : Nat) (l0 : List (List Int)) (q : Int) (w : World) (hr0 : Kd.C (Kd.slice 3 (Kd.int .i64)) w A0 l0.length l0) (hc0 : l0.length ≤ c0) (hq : inCave k s l0 0 = some q) (hcell : w.cell? ⟨b, 0, none⟩ = some (.int .i64 s)) :
 Calls Tryz.prog 67 #[.slice A0 l0.length c0, .func (.func 46) #[] #[.pointer (some ⟨b, 0, none⟩)]] w fun e w' => e = .returned (.int .i64 q) ∧ Below w.heap.size w w' := by
 have hm := hr0.2.1
 go_enter Tryz.func67, Tryz.ntmps67
 go_wp2
 go_loopw [8] (fun v wr => ∃ i : Nat, i ≤ l0.length ∧ v = .int .i64 i ∧ inCave k s (l0.drop i) i = some q ∧ Below w.heap.size w wr) (fun v _ => l0.length - (intOf v).toNat)
 case atStart => exact ⟨0, by omega, rfl, by simpa using hq, Below.refl _ _⟩
 case round =>
  obtain ⟨i, hi, rfl, he, hb⟩ := hrel
  by_cases hlt : i < l0.length
  ·obtain ⟨ad, Ai, ci, rfl, hx, hci, hri⟩ := at_L4 (Kd.C_below hr0 hb) (i : Int) (by omega) (by omega)
   have hx' : rd_L4 l0 (i : Int) = l0.getD i [] := by unfold rd_L4; rw [Int.toNat_natCast]
   rw [hx', Int.toNat_natCast] at hx
   rw [hx'] at hci hri
   rw [drop17 l0 i [] hlt] at he
   generalize l0.getD i [] = x at hx hci hri he
   clear hx'
   simp only [inCave] at he
   obtain ⟨t, ht, he⟩ := Option.bind_eq_some_iff.mp he
   have hcc := (hb.cell (World.block_lt_of_cell? w _ hcell)).trans hcell
   have hcl := inCaveClosure k Ai ci x s t b wr hri hci hcc ht
   have he' := Aside0.mk he
   have hb' := Aside0.mk hb
   clear he hb ht hri hci hcc
   cases t with
   | true =>
    go_wp2_with (go_at_call 46; refine hcl.mono ?_; rintro e w1 ⟨rfl, hb1⟩)
    go_ret
    have he := he'.out
    simp only [reduceIte] at he
    rw [← Option.some.inj he]
    exact ⟨rfl, hb'.out.trans (hb1.mono hb'.out.size)⟩
   | false =>
    go_wp2_with (go_at_call 46; refine hcl.mono ?_; rintro e w1 ⟨rfl, hb1⟩)
    go_roundw
    case rel => exact ⟨i + 1, by omega, by go_num, by have he := he'.out; simp only [Bool.false_eq_true, reduceIte] at he; simpa using he, hb'.out.trans (hb1.mono hb'.out.size)⟩
    case measure => simp [intOf]; omega
  ·have hd : l0.drop i = [] := List.drop_eq_nil_of_le (by omega)
   rw [hd] at he
   have he' := Aside0.mk he
   have hb' := Aside0.mk hb
   clear he hb hd
   go_wp2
   go_ret
   rw [← Option.some.inj he'.out]
   exact ⟨rfl, hb'.out⟩
set_option maxHeartbeats 4000000 in
theorem impl_xInCave.calls (k : Nat) (A0 : Option Addr) (c0 : Nat) (l0 : List (List Int)) (a1 : Int) (r : Bool) (w : World) (hr0 : Kd.C (Kd.slice 3 (Kd.int .i64)) w A0 l0.length l0) (hc0 : l0.length ≤ c0) (h : impl_xInCave.f k l0 a1 = some r) {b : Nat} (hcell : w.cell? ⟨b, 0, none⟩ = some (.int .i64 a1) := by first | assumption | (refine Aside0.out ?_; assumption)) :
 Calls Tryz.prog 45 #[.slice A0 l0.length c0, .func (.func 46) #[] #[.pointer (some ⟨b, 0, none⟩)]] w fun e w' => e = .returned (.bool r) ∧ Below w.heap.size w w' := by
 obtain ⟨q, hq, h⟩ := Option.bind_eq_some_iff.mp h
 obtain rfl := Option.some.inj h
 have hcon := IndexFunc_inCave k a1 b A0 c0 l0 q w hr0 hc0 hq hcell
 clear h hq hcell
 go_enter Tryz.func45, Tryz.ntmps45
 go_wp2_with (go_at_call 67; refine hcon.mono ?_; rintro e w1 ⟨rfl, hb1⟩)
 go_ret
 exact ⟨rfl, hb1⟩

end Go.Proofs.YtmfidodcpbochaaGreat.QFnSteps
