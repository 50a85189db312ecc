/- Contracts of Go functions that FnPermits reaches: the call computes what the plain function says. No condition. -/
import Derived.Test.YtgeioccfjgpijaaDoorQFnPermitsx0
import Derived.Test.YtgeioccfjgpijaaDoorQFnPermitsx2
import Derived.Test.YtgeioccfjgpijaaDoorQFnPermitsx3
import Derived.Test.YtgeioccfjgpijaaDoorQFnPermitsx4
import Derived.Test.YtgeioccfjgpijaaDoorQFnPermitsx5
namespace Go.Proofs.YtgeioccfjgpijaaDoor.QFnPermits
open Go.RowKit Go.Proofs.YtgeioccfjgpijaaDoorW.PrintWords Go.Proofs.YtgeioccfjgpijaaDoorW.PrintLast Go.Proofs.YtgeioccfjgpijaaDoorW.PrintMore
attribute [local go_sem] max2_int min2_int max_two min_two max_three min_three max_four min_four   -- for this text's walks alone
set_option linter.unusedVariables false
set_option linter.unusedSimpArgs false

/-! ### spec_l22On: function 64 -/
def spec_l22On.l0 : Nat → List (S26) → ByteArray → Int → Int → Option (Int)
 | 0, _, _, _, _ => none
 | k + 1, x0, x1, x2, x7 => if x7 < (x0.length : Int) then (if 0 ≤ x7 then ((spec_l22Holds.f ((rd_T26 x0 x7).f0) ((rd_T26 x0 x7).f1) ((rd_T26 x0 x7).f2) ((rd_T26 x0 x7).f3) ((rd_T26 x0 x7).f4) ((rd_T26 x0 x7).f5)).bind fun t153 => (if t153 = true then (if ((rd_T26 x0 x7).f1).toList = x1.toList then ((spec_l1In.f x2 ((rd_T26 x0 x7).f2) ((rd_T26 x0 x7).f3)).bind fun t154 => (if t154 = true then (some x7) else (spec_l22On.l0 k x0 x1 x2 (wrap64 (x7 + 1))))) else (spec_l22On.l0 k x0 x1 x2 (wrap64 (x7 + 1)))) else (spec_l22On.l0 k x0 x1 x2 (wrap64 (x7 + 1))))) else (none)) else (some (-1))
def spec_l22On.f (k : Nat) (l0 : List (S26)) (a1 : ByteArray) (a2 : Int) : Option (Int) := spec_l22On.l0 k l0 a1 a2 0
theorem spec_l22On.mono_l : ∀ k, (∀ y0 y1 y2 y3, LeO (spec_l22On.l0 k y0 y1 y2 y3) (spec_l22On.l0 (k + 1) y0 y1 y2 y3))
 | 0 => fun _ _ _ _ r h => by simp [spec_l22On.l0] at h
 | k + 1 => by
  have ih0 := spec_l22On.mono_l k
  ·intro y0 y1 y2 y3
   unfold spec_l22On.l0
   repeat' with_reducible first | apply ih0 | exact LeO.refl _ | exact LeO.none _ | refine LeO.ite ?_ ?_ | refine LeO.bind ?_ (fun _ => ?_)
theorem spec_l22On.mono : ∀ a0 a1 a2 k, LeO (spec_l22On.f k a0 a1 a2) (spec_l22On.f (k + 1) a0 a1 a2) := by
 intro a0 a1 a2 k
 have ih0 := spec_l22On.mono_l k
 unfold spec_l22On.f
 repeat' with_reducible first | apply ih0 | exact LeO.refl _ | exact LeO.none _ | refine LeO.ite ?_ ?_ | refine LeO.bind ?_ (fun _ => ?_)
set_option maxHeartbeats 8000000 in
set_option maxRecDepth 100000 in
theorem spec_l22On.calls (k : Nat) (A0 : Option Addr) (c0 : Nat) (l0 : List (S26)) (a1 : ByteArray) (a2 r : Int) (w : World) (hr0 : Kd.C k26 w A0 l0.length l0) (hc0 : l0.length ≤ c0) (h : spec_l22On.f k l0 a1 a2 = some r) :
  Calls Tryd.prog 64 #[.slice A0 l0.length c0, .string a1, .int .i64 a2] w fun e w' => e = .returned (.int .i64 r) ∧ Below w.heap.size w w' := by
 have hu26 := Tryd.underlying26
 have HR0 := Aside0.mk hr0
 have HC0 := Aside0.mk hc0
 clear hr0 hc0
 have HB := Aside0.mk (Below.refl w.heap.size w)
 have H : (spec_l22On.l0 k l0 a1 a2 0) = some r := h
 clear h
 have H' := Aside0.mk H
 clear H
 go_enter Tryd.func64, Tryd.ntmps64
 go_wp2
 go_loopg [7] k (fun kq v7 w' => ∃ (x7_1 : Int), v7 = .int .i64 x7_1 ∧ Aside0 (spec_l22On.l0 kq l0 a1 a2 x7_1 = some r) ∧ Aside0 (kq ≤ k) ∧ Aside0 (Below w.heap.size w w'))
 case atStart => exact ⟨(0), rB, H', ⟨Nat.le_refl _⟩, (aB HB)⟩
 case round =>
  clear H'
  obtain ⟨x7_1, rfl, HA, HK1, HB⟩ := hrel
  cases gk with
  | zero => exact absurd HA.out (by simp [spec_l22On.l0])
  | succ k1 =>
   have H := HA.out
   clear HA
   simp only [spec_l22On.l0] at H
   replace H := ifD H
   rcases H with ⟨H, -, c4b0⟩ | ⟨H, -, c4b0⟩
   ·by_cases c5 : 0 ≤ x7_1
    ·rw [if_pos c5] at H
     have c5b0 : decide (0 ≤ x7_1) = true := decide_eq_true c5
     clear c5
     replace H := bA H
     obtain ⟨t153, A6, H⟩ := H
     rcases Bool.eq_false_or_eq_true t153 with rfl | rfl
     ·replace H := iT rfl H
      replace H := ifI H
      rcases H with ⟨H, -, c8b0, c8b1⟩ | ⟨H, c8, c8b0, c8b1⟩
      ·replace H := bA H
       obtain ⟨t154, A9, H⟩ := H
       rcases Bool.eq_false_or_eq_true t154 with rfl | rfl
       ·replace H := iT rfl H
        obtain rfl := Option.some.inj H
        have p151 : 0 ≤ (x7_1 : Int) := of_decide_eq_true asmB
        have q151 : x7_1 < (l0.length : Int) := of_decide_eq_true asmB
        obtain ⟨ad151, e151, hx151_0, hx151_1, hx151_2, hx151_3, hx151_4, hx151_5⟩ := at_T26 HR0.out x7_1 p151 q151
        cases e151
        replace hx151_0 := bx HB.out hx151_0
        replace hx151_1 := bx HB.out hx151_1
        replace hx151_2 := bx HB.out hx151_2
        replace hx151_3 := bx HB.out hx151_3
        replace hx151_4 := bx HB.out hx151_4
        replace hx151_5 := bx HB.out hx151_5
        replace p151 := eq_true p151
        replace q151 := eq_true q151
        go_wp2_with (first | ((with_reducible refine gD 8 ?_); refine bxE 8 26 #[.int .i64 0, .string (⟨#[]⟩ : ByteArray), .int .i64 0, .int .i64 0, .int .i64 0, .int .i64 0] fun gb152 w11 hg hbox hb => ?_; have BK152 := Aside0.mk hbox; have GE152 := gB HB hg; replace HB := uB HB hb; clear hb hbox hg; have hcz12_0 := ci BK152.out 0 0 rfl; have hcz12_1 : w11.cell? ⟨gb152, 1, none⟩ = some (.string (⟨#[]⟩ : ByteArray)) := cb BK152 1; have hcz12_2 := ci BK152.out 2 0 rfl; have hcz12_3 := ci BK152.out 3 0 rfl; have hcz12_4 := ci BK152.out 4 0 rfl; have hcz12_5 := ci BK152.out 5 0 rfl; have hfz12_0 := fun j_ : Nat => blk_frozen BK152.out j_) | ((with_reducible refine gC 70 ?_); refine lA (some 20) Tryd.func70 (spec_l22Holds.calls ((rd_T26 l0 x7_1).f0) ((rd_T26 l0 x7_1).f1) ((rd_T26 l0 x7_1).f2) ((rd_T26 l0 x7_1).f3) ((rd_T26 l0 x7_1).f4) ((rd_T26 l0 x7_1).f5) true _ A6.out) ?_; intro w13 hb; replace BK152 := uQ BK152 hb #[.int .i64 ((rd_T26 l0 x7_1).f0), .string ((rd_T26 l0 x7_1).f1), .int .i64 ((rd_T26 l0 x7_1).f2), .int .i64 ((rd_T26 l0 x7_1).f3), .int .i64 ((rd_T26 l0 x7_1).f4), .int .i64 ((rd_T26 l0 x7_1).f5)]; replace HB := uB HB hb; (try clear hb); have hcz14_0 := ci BK152.out 0 ((rd_T26 l0 x7_1).f0) rfl; have hcz14_1 : w13.cell? ⟨gb152, 1, none⟩ = some (.string ((rd_T26 l0 x7_1).f1)) := cb BK152 1; have hcz14_2 := ci BK152.out 2 ((rd_T26 l0 x7_1).f2) rfl; have hcz14_3 := ci BK152.out 3 ((rd_T26 l0 x7_1).f3) rfl; have hcz14_4 := ci BK152.out 4 ((rd_T26 l0 x7_1).f4) rfl; have hcz14_5 := ci BK152.out 5 ((rd_T26 l0 x7_1).f5) rfl; have hfz14_0 := fun j_ : Nat => blk_frozen BK152.out j_) | (go_at_call 67; (with_reducible refine (spec_l1In.calls a2 ((rd_T26 l0 x7_1).f2) ((rd_T26 l0 x7_1).f3) true _ A9.out).mono ?_); rintro e w' ⟨rfl, ⟨nd, rfl⟩⟩))
        go_ret
        exact ⟨eB, (bW HB)⟩
       ·replace H := iF (by decide) H
        have H' := Aside0.mk H
        clear H
        have p151 : 0 ≤ (x7_1 : Int) := of_decide_eq_true asmB
        have q151 : x7_1 < (l0.length : Int) := of_decide_eq_true asmB
        obtain ⟨ad151, e151, hx151_0, hx151_1, hx151_2, hx151_3, hx151_4, hx151_5⟩ := at_T26 HR0.out x7_1 p151 q151
        cases e151
        replace hx151_0 := bx HB.out hx151_0
        replace hx151_1 := bx HB.out hx151_1
        replace hx151_2 := bx HB.out hx151_2
        replace hx151_3 := bx HB.out hx151_3
        replace hx151_4 := bx HB.out hx151_4
        replace hx151_5 := bx HB.out hx151_5
        replace p151 := eq_true p151
        replace q151 := eq_true q151
        go_wp2_with (first | ((with_reducible refine gD 8 ?_); refine bxE 8 26 #[.int .i64 0, .string (⟨#[]⟩ : ByteArray), .int .i64 0, .int .i64 0, .int .i64 0, .int .i64 0] fun gb152 w15 hg hbox hb => ?_; have BK152 := Aside0.mk hbox; have GE152 := gB HB hg; replace HB := uB HB hb; clear hb hbox hg; have hcz16_0 := ci BK152.out 0 0 rfl; have hcz16_1 : w15.cell? ⟨gb152, 1, none⟩ = some (.string (⟨#[]⟩ : ByteArray)) := cb BK152 1; have hcz16_2 := ci BK152.out 2 0 rfl; have hcz16_3 := ci BK152.out 3 0 rfl; have hcz16_4 := ci BK152.out 4 0 rfl; have hcz16_5 := ci BK152.out 5 0 rfl; have hfz16_0 := fun j_ : Nat => blk_frozen BK152.out j_) | ((with_reducible refine gC 70 ?_); refine lA (some 20) Tryd.func70 (spec_l22Holds.calls ((rd_T26 l0 x7_1).f0) ((rd_T26 l0 x7_1).f1) ((rd_T26 l0 x7_1).f2) ((rd_T26 l0 x7_1).f3) ((rd_T26 l0 x7_1).f4) ((rd_T26 l0 x7_1).f5) true _ A6.out) ?_; intro w17 hb; replace BK152 := uQ BK152 hb #[.int .i64 ((rd_T26 l0 x7_1).f0), .string ((rd_T26 l0 x7_1).f1), .int .i64 ((rd_T26 l0 x7_1).f2), .int .i64 ((rd_T26 l0 x7_1).f3), .int .i64 ((rd_T26 l0 x7_1).f4), .int .i64 ((rd_T26 l0 x7_1).f5)]; replace HB := uB HB hb; (try clear hb); have hcz18_0 := ci BK152.out 0 ((rd_T26 l0 x7_1).f0) rfl; have hcz18_1 : w17.cell? ⟨gb152, 1, none⟩ = some (.string ((rd_T26 l0 x7_1).f1)) := cb BK152 1; have hcz18_2 := ci BK152.out 2 ((rd_T26 l0 x7_1).f2) rfl; have hcz18_3 := ci BK152.out 3 ((rd_T26 l0 x7_1).f3) rfl; have hcz18_4 := ci BK152.out 4 ((rd_T26 l0 x7_1).f4) rfl; have hcz18_5 := ci BK152.out 5 ((rd_T26 l0 x7_1).f5) rfl; have hfz18_0 := fun j_ : Nat => blk_frozen BK152.out j_) | (go_at_call 67; (with_reducible refine (spec_l1In.calls a2 ((rd_T26 l0 x7_1).f2) ((rd_T26 l0 x7_1).f3) false _ A9.out).mono ?_); rintro e w' ⟨rfl, ⟨nd, rfl⟩⟩))
        go_roundg k1
        case measure => have := HK1.out; omega
        case rel => exact ⟨(wrap64 (x7_1 + 1)), rB, H', ⟨by have := HK1.out; omega⟩, (aB HB)⟩
      ·have H' := Aside0.mk H
       clear H
       have p151 : 0 ≤ (x7_1 : Int) := of_decide_eq_true asmB
       have q151 : x7_1 < (l0.length : Int) := of_decide_eq_true asmB
       obtain ⟨ad151, e151, hx151_0, hx151_1, hx151_2, hx151_3, hx151_4, hx151_5⟩ := at_T26 HR0.out x7_1 p151 q151
       cases e151
       replace hx151_0 := bx HB.out hx151_0
       replace hx151_1 := bx HB.out hx151_1
       replace hx151_2 := bx HB.out hx151_2
       replace hx151_3 := bx HB.out hx151_3
       replace hx151_4 := bx HB.out hx151_4
       replace hx151_5 := bx HB.out hx151_5
       replace p151 := eq_true p151
       replace q151 := eq_true q151
       go_wp2_with (first | ((with_reducible refine gD 8 ?_); refine bxE 8 26 #[.int .i64 0, .string (⟨#[]⟩ : ByteArray), .int .i64 0, .int .i64 0, .int .i64 0, .int .i64 0] fun gb152 w19 hg hbox hb => ?_; have BK152 := Aside0.mk hbox; have GE152 := gB HB hg; replace HB := uB HB hb; clear hb hbox hg; have hcz20_0 := ci BK152.out 0 0 rfl; have hcz20_1 : w19.cell? ⟨gb152, 1, none⟩ = some (.string (⟨#[]⟩ : ByteArray)) := cb BK152 1; have hcz20_2 := ci BK152.out 2 0 rfl; have hcz20_3 := ci BK152.out 3 0 rfl; have hcz20_4 := ci BK152.out 4 0 rfl; have hcz20_5 := ci BK152.out 5 0 rfl; have hfz20_0 := fun j_ : Nat => blk_frozen BK152.out j_) | ((with_reducible refine gC 70 ?_); refine lA (some 20) Tryd.func70 (spec_l22Holds.calls ((rd_T26 l0 x7_1).f0) ((rd_T26 l0 x7_1).f1) ((rd_T26 l0 x7_1).f2) ((rd_T26 l0 x7_1).f3) ((rd_T26 l0 x7_1).f4) ((rd_T26 l0 x7_1).f5) true _ A6.out) ?_; intro w21 hb; replace BK152 := uQ BK152 hb #[.int .i64 ((rd_T26 l0 x7_1).f0), .string ((rd_T26 l0 x7_1).f1), .int .i64 ((rd_T26 l0 x7_1).f2), .int .i64 ((rd_T26 l0 x7_1).f3), .int .i64 ((rd_T26 l0 x7_1).f4), .int .i64 ((rd_T26 l0 x7_1).f5)]; replace HB := uB HB hb; (try clear hb); have hcz22_0 := ci BK152.out 0 ((rd_T26 l0 x7_1).f0) rfl; have hcz22_1 : w21.cell? ⟨gb152, 1, none⟩ = some (.string ((rd_T26 l0 x7_1).f1)) := cb BK152 1; have hcz22_2 := ci BK152.out 2 ((rd_T26 l0 x7_1).f2) rfl; have hcz22_3 := ci BK152.out 3 ((rd_T26 l0 x7_1).f3) rfl; have hcz22_4 := ci BK152.out 4 ((rd_T26 l0 x7_1).f4) rfl; have hcz22_5 := ci BK152.out 5 ((rd_T26 l0 x7_1).f5) rfl; have hfz22_0 := fun j_ : Nat => blk_frozen BK152.out j_))
       go_roundg k1
       case measure => have := HK1.out; omega
       case rel => exact ⟨(wrap64 (x7_1 + 1)), rB, H', ⟨by have := HK1.out; omega⟩, (aB HB)⟩
     ·replace H := iF (by decide) H
      have H' := Aside0.mk H
      clear H
      have p151 : 0 ≤ (x7_1 : Int) := of_decide_eq_true asmB
      have q151 : x7_1 < (l0.length : Int) := of_decide_eq_true asmB
      obtain ⟨ad151, e151, hx151_0, hx151_1, hx151_2, hx151_3, hx151_4, hx151_5⟩ := at_T26 HR0.out x7_1 p151 q151
      cases e151
      replace hx151_0 := bx HB.out hx151_0
      replace hx151_1 := bx HB.out hx151_1
      replace hx151_2 := bx HB.out hx151_2
      replace hx151_3 := bx HB.out hx151_3
      replace hx151_4 := bx HB.out hx151_4
      replace hx151_5 := bx HB.out hx151_5
      replace p151 := eq_true p151
      replace q151 := eq_true q151
      go_wp2_with (first | ((with_reducible refine gD 8 ?_); refine bxE 8 26 #[.int .i64 0, .string (⟨#[]⟩ : ByteArray), .int .i64 0, .int .i64 0, .int .i64 0, .int .i64 0] fun gb152 w23 hg hbox hb => ?_; have BK152 := Aside0.mk hbox; have GE152 := gB HB hg; replace HB := uB HB hb; clear hb hbox hg; have hcz24_0 := ci BK152.out 0 0 rfl; have hcz24_1 : w23.cell? ⟨gb152, 1, none⟩ = some (.string (⟨#[]⟩ : ByteArray)) := cb BK152 1; have hcz24_2 := ci BK152.out 2 0 rfl; have hcz24_3 := ci BK152.out 3 0 rfl; have hcz24_4 := ci BK152.out 4 0 rfl; have hcz24_5 := ci BK152.out 5 0 rfl; have hfz24_0 := fun j_ : Nat => blk_frozen BK152.out j_) | ((with_reducible refine gC 70 ?_); refine lA (some 20) Tryd.func70 (spec_l22Holds.calls ((rd_T26 l0 x7_1).f0) ((rd_T26 l0 x7_1).f1) ((rd_T26 l0 x7_1).f2) ((rd_T26 l0 x7_1).f3) ((rd_T26 l0 x7_1).f4) ((rd_T26 l0 x7_1).f5) false _ A6.out) ?_; intro w25 hb; replace BK152 := uQ BK152 hb #[.int .i64 ((rd_T26 l0 x7_1).f0), .string ((rd_T26 l0 x7_1).f1), .int .i64 ((rd_T26 l0 x7_1).f2), .int .i64 ((rd_T26 l0 x7_1).f3), .int .i64 ((rd_T26 l0 x7_1).f4), .int .i64 ((rd_T26 l0 x7_1).f5)]; replace HB := uB HB hb; (try clear hb)))
      go_roundg k1
      case measure => have := HK1.out; omega
      case rel => exact ⟨(wrap64 (x7_1 + 1)), rB, H', ⟨by have := HK1.out; omega⟩, (aB HB)⟩
    ·rw [if_neg c5] at H
     exact absurd H (by simp)
   ·obtain rfl := Option.some.inj H
    go_wp2
    go_ret
    exact ⟨eB, (bW HB)⟩

/-! ### spec_AllowedOn: function 23 -/
def spec_AllowedOn.f (k : Nat) (l0 : List (S26)) (a1 : ByteArray) (a2 : Int) : Option (Int × Bool) := (spec_l22Good.f k l0).bind fun t155 => (if t155 = true then ((spec_l22Day.f a2).bind fun t156 => (if t156 = true then ((spec_l22On.f k l0 a1 a2).bind fun t157 => (if t157 < 0 then (some (0, false)) else ((spec_l22On.f k l0 a1 a2).bind fun t158 => (if 0 ≤ t158 then (if t158 < (l0.length : Int) then (some ((rd_T26 l0 t158).f0, true)) else (none)) else (none))))) else (some (0, false)))) else (some (0, false)))
theorem spec_AllowedOn.mono : ∀ a0 a1 a2 k, LeO (spec_AllowedOn.f k a0 a1 a2) (spec_AllowedOn.f (k + 1) a0 a1 a2) := by
 intro a0 a1 a2 k
 unfold spec_AllowedOn.f
 repeat' with_reducible first | apply spec_l22Good.mono | apply spec_l22On.mono | exact LeO.refl _ | exact LeO.none _ | refine LeO.ite ?_ ?_ | refine LeO.bind ?_ (fun _ => ?_)
set_option maxHeartbeats 8000000 in
set_option maxRecDepth 100000 in
theorem spec_AllowedOn.calls (k : Nat) (A0 : Option Addr) (c0 : Nat) (l0 : List (S26)) (a1 : ByteArray) (a2 r1 : Int) (r2 : Bool) (w : World) (hr0 : Kd.C k26 w A0 l0.length l0) (hc0 : l0.length ≤ c0) (h : spec_AllowedOn.f k l0 a1 a2 = some (r1, r2)) :
  Calls Tryd.prog 23 #[.slice A0 l0.length c0, .string a1, .int .i64 a2] w fun e w' => e = .returned (.tuple #[.int .i64 r1, .bool r2]) ∧ Below w.heap.size w w' := by
 have HR0 := Aside0.mk hr0
 have HC0 := Aside0.mk hc0
 clear hr0 hc0
 have HB := Aside0.mk (Below.refl w.heap.size w)
 have H := h
 clear h
 unfold spec_AllowedOn.f at H
 replace H := bA H
 obtain ⟨t155, A4, H⟩ := H
 rcases Bool.eq_false_or_eq_true t155 with rfl | rfl
 ·replace H := iT rfl H
  replace H := bA H
  obtain ⟨t156, A6, H⟩ := H
  rcases Bool.eq_false_or_eq_true t156 with rfl | rfl
  ·replace H := iT rfl H
   replace H := bA H
   obtain ⟨t157, A8, H⟩ := H
   replace H := ifD H
   rcases H with ⟨H, -, c9b0⟩ | ⟨H, -, c9b0⟩
   ·simp only [Option.some.injEq, Prod.mk.injEq] at H
    obtain ⟨rfl, rfl⟩ := H
    go_enter Tryd.func23, Tryd.ntmps23
    go_wp2_with (first | ((with_reducible refine gC 58 ?_); refine lA (some 9) Tryd.func58 (spec_l22Good.calls k _ _ l0 true _ ?side1 ?side2 A4.out) ?_; (case side1 => repeat (first | exact HR0.out | (with_reducible refine Kd.C_alloc ?_ _) | (with_reducible refine Kd.C_drewN ?_ _) | (with_reducible refine Kd.C_drew ?_))); (case side2 => exact HC0.out); intro w10 hb; replace HB := uB HB hb; (try clear hb)) | (go_at_call 63; (with_reducible refine (spec_l22Day.calls a2 true _ A6.out).mono ?_); rintro e w' ⟨rfl, ⟨nd, rfl⟩⟩) | (go_at_call 64; (with_reducible refine (spec_l22On.calls k _ _ l0 a1 a2 t157 _ ?side1 ?side2 A8.out).mono ?_); (case side1 => repeat (first | exact (Kd.C_below HR0.out (bW HB)) | (with_reducible refine Kd.C_alloc ?_ _) | (with_reducible refine Kd.C_drewN ?_ _) | (with_reducible refine Kd.C_drew ?_))); (case side2 => exact HC0.out); rintro e w11 ⟨rfl, hb⟩; replace HB := uB HB hb; (try clear hb)))
    go_ret2
    exact ⟨eB, (bW HB)⟩
   ·replace H := bA H
    obtain ⟨t158, A12, H⟩ := H
    by_cases c13 : 0 ≤ t158
    ·rw [if_pos c13] at H
     have c13b0 : decide (0 ≤ t158) = true := decide_eq_true c13
     clear c13
     by_cases c14 : t158 < (l0.length : Int)
     ·rw [if_pos c14] at H
      have c14b0 : decide (t158 < (l0.length : Int)) = true := decide_eq_true c14
      clear c14
      simp only [Option.some.injEq, Prod.mk.injEq] at H
      obtain ⟨rfl, rfl⟩ := H
      go_enter Tryd.func23, Tryd.ntmps23
      go_wp2_with (first | ((with_reducible refine gC 58 ?_); refine lA (some 9) Tryd.func58 (spec_l22Good.calls k _ _ l0 true _ ?side1 ?side2 A4.out) ?_; (case side1 => repeat (first | exact HR0.out | (with_reducible refine Kd.C_alloc ?_ _) | (with_reducible refine Kd.C_drewN ?_ _) | (with_reducible refine Kd.C_drew ?_))); (case side2 => exact HC0.out); intro w15 hb; replace HB := uB HB hb; (try clear hb)) | (go_at_call 63; (with_reducible refine (spec_l22Day.calls a2 true _ A6.out).mono ?_); rintro e w' ⟨rfl, ⟨nd, rfl⟩⟩) | (go_at_call 64; (with_reducible refine (spec_l22On.calls k _ _ l0 a1 a2 t157 _ ?side1 ?side2 A8.out).mono ?_); (case side1 => repeat (first | exact (Kd.C_below HR0.out (bW HB)) | (with_reducible refine Kd.C_alloc ?_ _) | (with_reducible refine Kd.C_drewN ?_ _) | (with_reducible refine Kd.C_drew ?_))); (case side2 => exact HC0.out); rintro e w16 ⟨rfl, hb⟩; replace HB := uB HB hb; (try clear hb)) | ((with_reducible refine gC 64 ?_); refine lA (some 27) Tryd.func64 (spec_l22On.calls k _ _ l0 a1 a2 t158 _ ?side1 ?side2 A12.out) ?_; (case side1 => repeat (first | exact (Kd.C_below HR0.out HB.out) | (with_reducible refine Kd.C_alloc ?_ _) | (with_reducible refine Kd.C_drewN ?_ _) | (with_reducible refine Kd.C_drew ?_))); (case side2 => exact HC0.out); intro w17 hb; replace HB := uB HB hb; (try clear hb); have p159 : 0 ≤ (t158 : Int) := of_decide_eq_true asmB; have q159 : t158 < (l0.length : Int) := of_decide_eq_true asmB; obtain ⟨ad159, e159, hx159_0, hx159_1, hx159_2, hx159_3, hx159_4, hx159_5⟩ := at_T26 HR0.out t158 p159 q159; cases e159; replace hx159_0 := bx HB.out hx159_0; replace hx159_1 := bx HB.out hx159_1; replace hx159_2 := bx HB.out hx159_2; replace hx159_3 := bx HB.out hx159_3; replace hx159_4 := bx HB.out hx159_4; replace hx159_5 := bx HB.out hx159_5; replace p159 := eq_true p159; replace q159 := eq_true q159))
      go_ret2
      exact ⟨eB, (bW HB)⟩
     ·rw [if_neg c14] at H
      exact absurd H (by simp)
    ·rw [if_neg c13] at H
     exact absurd H (by simp)
  ·replace H := iF (by decide) H
   simp only [Option.some.injEq, Prod.mk.injEq] at H
   obtain ⟨rfl, rfl⟩ := H
   go_enter Tryd.func23, Tryd.ntmps23
   go_wp2_with (first | ((with_reducible refine gC 58 ?_); refine lA (some 9) Tryd.func58 (spec_l22Good.calls k _ _ l0 true _ ?side1 ?side2 A4.out) ?_; (case side1 => repeat (first | exact HR0.out | (with_reducible refine Kd.C_alloc ?_ _) | (with_reducible refine Kd.C_drewN ?_ _) | (with_reducible refine Kd.C_drew ?_))); (case side2 => exact HC0.out); intro w18 hb; replace HB := uB HB hb; (try clear hb)) | (go_at_call 63; (with_reducible refine (spec_l22Day.calls a2 false _ A6.out).mono ?_); rintro e w' ⟨rfl, ⟨nd, rfl⟩⟩))
   go_ret2
   exact ⟨eB, (bW HB)⟩
 ·replace H := iF (by decide) H
  simp only [Option.some.injEq, Prod.mk.injEq] at H
  obtain ⟨rfl, rfl⟩ := H
  go_enter Tryd.func23, Tryd.ntmps23
  go_wp2_with (first | ((with_reducible refine gC 58 ?_); refine lA (some 9) Tryd.func58 (spec_l22Good.calls k _ _ l0 false _ ?side1 ?side2 A4.out) ?_; (case side1 => repeat (first | exact HR0.out | (with_reducible refine Kd.C_alloc ?_ _) | (with_reducible refine Kd.C_drewN ?_ _) | (with_reducible refine Kd.C_drew ?_))); (case side2 => exact HC0.out); intro w19 hb; replace HB := uB HB hb; (try clear hb)))
  go_ret2
  exact ⟨eB, (bW HB)⟩

/-! ### impl_xAllowed: function 141 -/
-- reaches: (impl.Permit).counts
-- reaches: impl.within
set_option maxHeartbeats 4000000 in
set_option maxRecDepth 100000 in
theorem IndexFunc_allowed (p : S26 → Bool) (V V2 : Value) (A0 : Option Addr) (c0 : Nat) (l0 : List (S26)) (w : World) (hr0 : Kd.C k26 w A0 l0.length l0) (hc0 : l0.length ≤ c0)
  (hp : ∀ (x : S26) (W : World), x ∈ l0 → Below w.heap.size w W → Calls Tryd.prog 93 #[.agg #[.int .i64 x.f0, .string x.f1, .int .i64 x.f2, .int .i64 x.f3, .int .i64 x.f4, .int .i64 x.f5], V, V2] W fun e W' => e = .returned (.bool (p x)) ∧ Below W.heap.size W W') :
  Calls Tryd.prog 92 #[.slice A0 l0.length c0, .func (.func 93) #[] #[V, V2]] w fun e w' => e = .returned (.int .i64 (idxP26 p l0 0)) ∧ Below w.heap.size w w' := by
 have hu := Tryd.underlying26
 have hm := hr0.2.1
 go_enter Tryd.func92, Tryd.ntmps92
 go_wp2
 go_loopw [8] (fun v wr => ∃ i : Nat, i ≤ l0.length ∧ v = .int .i64 i ∧ idxP26 p l0 0 = idxP26 p (l0.drop i) i ∧ Below w.heap.size w wr) (fun v _ => l0.length - (intOf v).toNat)
 case atStart => exact ⟨0, by omega, rfl, by simp, Below.refl _ _⟩
 case round =>
  obtain ⟨i, hi, rfl, he, hb⟩ := hrel
  by_cases hlt : i < l0.length
  ·obtain ⟨ad, rfl, h0, h1, h2, h3, h4, h5⟩ := at_T26 (Kd.C_below hr0 hb) (i : Int) (by omega) (by omega)
   have hx : rd_T26 l0 (i : Int) = l0.getD i z26 := by unfold rd_T26; rw [Int.toNat_natCast]
   have hmem := getD_mem' l0 i z26 hlt
   rw [hx] at h0 h1 h2 h3 h4 h5
   rw [getD_drop' l0 i z26 hlt] at he
   generalize l0.getD i z26 = x at h0 h1 h2 h3 h4 h5 he hx hmem
   clear hx
   rw [Int.toNat_natCast] at h0 h1 h2 h3 h4 h5
   cases hpx : p x with
   | true =>
    have hq := hp x wr hmem hb
    rw [hpx] at hq
    have he' := Aside0.mk he
    have hb' := Aside0.mk hb
    have hpx' := Aside0.mk hpx
    clear he hb hp hpx hmem
    go_wp2_with (go_at_call 93; refine hq.mono ?_; rintro e w1 ⟨rfl, hb1⟩)
    go_ret
    refine ⟨?_, hb'.out.trans (hb1.mono hb'.out.size)⟩
    rw [he'.out, idxP26, if_pos hpx'.out]
    rfl
   | false =>
    have hq := hp x wr hmem hb
    rw [hpx] at hq
    have he' := Aside0.mk he
    have hb' := Aside0.mk hb
    have hpx' := Aside0.mk hpx
    have hp' := Aside0.mk hp
    clear he hb hp hpx hmem
    go_wp2_with (go_at_call 93; refine hq.mono ?_; rintro e w1 ⟨rfl, hb1⟩)
    go_roundw
    case rel => exact ⟨i + 1, by omega, by go_num, by rw [he'.out, idxP26, hpx'.out]; rfl, hb'.out.trans (hb1.mono hb'.out.size)⟩
    case measure => simp [intOf]; omega
  ·have hd : l0.drop i = [] := List.drop_eq_nil_of_le (by omega)
   rw [hd] at he
   have he' := Aside0.mk he
   have hb' := Aside0.mk hb
   clear he hb hp hd
   go_wp2
   go_ret
   exact ⟨by rw [he'.out, idxP26]; rfl, hb'.out⟩

def onDay (a1 : ByteArray) (a2 : Int) (x : S26) : Bool := (x.f5 == 1 || x.f5 == 3) && (decide (x.f1.toList = a1.toList) && decide (x.f2 ≤ a2 ∧ a2 ≤ x.f3))
set_option maxRecDepth 100000 in
set_option maxHeartbeats 2000000 in
theorem allowedClosure (x : S26) (q : ByteArray) (n : Int) (b1 b2 : Nat) (W : World) (h1 : W.cell? ⟨b1, 0, none⟩ = some (.string q)) (h2 : W.cell? ⟨b2, 0, none⟩ = some (.int .i64 n)) :
  Calls Tryd.prog 93 #[.agg #[.int .i64 x.f0, .string x.f1, .int .i64 x.f2, .int .i64 x.f3, .int .i64 x.f4, .int .i64 x.f5], .pointer (some ⟨b1, 0, none⟩), .pointer (some ⟨b2, 0, none⟩)] W fun e W' => e = .returned (.bool (onDay q n x)) ∧ Below W.heap.size W W' := by
 have hu := Tryd.underlying26
 have hl1 := World.block_lt_of_cell? W _ h1
 have hl2 := World.block_lt_of_cell? W _ h2
 go_enter Tryd.func93, Tryd.ntmps93
 go_wp2
 all_goals go_ret
 all_goals refine ⟨?_, by first | exact (((Below.refl _ W).alloc (Nat.le_refl _) _).alloc (by simp) _) | exact ((Below.refl _ W).alloc (Nat.le_refl _) _)⟩
 all_goals first | (simp [onDay, *]; done) | (simp [onDay, *]; omega)
def impl_xAllowed.f (l0 : List (S26)) (a1 : ByteArray) (a2 : Int) : Option Int := some (idxP26 (onDay a1 a2) l0 0)
theorem impl_xAllowed.calls (A0 : Option Addr) (c0 : Nat) (l0 : List (S26)) (a1 : ByteArray) (a2 r : Int) (w : World) (hr0 : Kd.C k26 w A0 l0.length l0) (hc0 : l0.length ≤ c0) (h : impl_xAllowed.f l0 a1 a2 = some r) {b1 b2 : Nat} (hcell1 : w.cell? ⟨b1, 0, none⟩ = some (.string a1) := by first | assumption | simp) (hcell2 : w.cell? ⟨b2, 0, none⟩ = some (.int .i64 a2) := by first | assumption | simp) :
  Calls Tryd.prog 92 #[.slice A0 l0.length c0, .func (.func 93) #[] #[.pointer (some ⟨b1, 0, none⟩), .pointer (some ⟨b2, 0, none⟩)]] w fun e w' => e = .returned (.int .i64 r) ∧ Below w.heap.size w w' := by
 obtain rfl := Option.some.inj h
 have hl1 := World.block_lt_of_cell? w _ hcell1
 have hl2 := World.block_lt_of_cell? w _ hcell2
 exact IndexFunc_allowed (onDay a1 a2) (.pointer (some ⟨b1, 0, none⟩)) (.pointer (some ⟨b2, 0, none⟩)) A0 c0 l0 w hr0 hc0 (fun x W _ hB => allowedClosure x a1 a2 b1 b2 W ((hB.cell hl1).trans hcell1) ((hB.cell hl2).trans hcell2))

/-! ### impl_allowed: function 65 -/
def impl_allowed.f (l0 : List (S26)) (a1 : ByteArray) (a2 : Int) : Option (Int × ByteArray × Int × Int × Int × Int × Bool) := (impl_xAllowed.f l0 a1 a2).bind fun t161 => (if t161 < 0 then (some (0, (⟨#[]⟩ : ByteArray), 0, 0, 0, 0, false)) else (if 0 ≤ t161 then (if t161 < (l0.length : Int) then (some ((rd_T26 l0 t161).f0, (rd_T26 l0 t161).f1, (rd_T26 l0 t161).f2, (rd_T26 l0 t161).f3, (rd_T26 l0 t161).f4, (rd_T26 l0 t161).f5, true)) else (none)) else (none)))
set_option maxHeartbeats 8000000 in
set_option maxRecDepth 100000 in
theorem impl_allowed.calls (A0 : Option Addr) (c0 : Nat) (l0 : List (S26)) (a1 : ByteArray) (a2 : Int) (r1 : Int) (r2 : ByteArray) (r3 : Int) (r4 : Int) (r5 : Int) (r6 : Int) (r7 : Bool) (w : World) (hr0 : Kd.C k26 w A0 l0.length l0) (hc0 : l0.length ≤ c0) (h : impl_allowed.f l0 a1 a2 = some (r1, r2, r3, r4, r5, r6, r7)) :
    Calls Tryd.prog 65 #[.slice A0 l0.length c0, .string a1, .int .i64 a2] w fun e w' => e = .returned (.tuple #[.agg #[.int .i64 r1, .string r2, .int .i64 r3, .int .i64 r4, .int .i64 r5, .int .i64 r6], .bool r7]) ∧ Below w.heap.size w w' := by
  have hu26 := Tryd.underlying26
  have HR0 := Aside0.mk hr0
  have HC0 := Aside0.mk hc0
  clear hr0 hc0
  have HB := Aside0.mk (Below.refl w.heap.size w)
  have H : ((impl_xAllowed.f l0 a1 a2).bind fun t161 => (if t161 < 0 then (some (0, (⟨#[]⟩ : ByteArray), 0, 0, 0, 0, false)) else (if 0 ≤ t161 then (if t161 < (l0.length : Int) then (some ((rd_T26 l0 t161).f0, (rd_T26 l0 t161).f1, (rd_T26 l0 t161).f2, (rd_T26 l0 t161).f3, (rd_T26 l0 t161).f4, (rd_T26 l0 t161).f5, true)) else (none)) else (none)))) = some (r1, r2, r3, r4, r5, r6, r7) := h
  clear h
  replace H := Option.bind_eq_some_iff.mp H
  obtain ⟨t161, A40, H⟩ := H
  replace H : (if t161 < 0 then (some (0, (⟨#[]⟩ : ByteArray), 0, 0, 0, 0, false)) else (if 0 ≤ t161 then (if t161 < (l0.length : Int) then (some ((rd_T26 l0 t161).f0, (rd_T26 l0 t161).f1, (rd_T26 l0 t161).f2, (rd_T26 l0 t161).f3, (rd_T26 l0 t161).f4, (rd_T26 l0 t161).f5, true)) else (none)) else (none))) = some (r1, r2, r3, r4, r5, r6, r7) := H
  have A4 := Aside0.mk A40
  clear A40
  by_cases c5 : t161 < 0
  · rw [if_pos c5] at H
    have c5b0 : decide (t161 < 0) = true := decide_eq_true c5
    clear c5
    simp only [Option.some.injEq, Prod.mk.injEq] at H
    obtain ⟨rfl, rfl, rfl, rfl, rfl, rfl, rfl⟩ := H
    go_enter Tryd.func65, Tryd.ntmps65
    go_wp2_with (first | ((with_reducible refine gate_dst (N := 6) rfl ?_); refine box_event ?hg (N := 6) ?hd (cs := #[.int .i64 0, .string (⟨#[]⟩ : ByteArray), .int .i64 0, .int .i64 0, .int .i64 0, .int .i64 0]) (t := 26) ?hr ?_; (case hd => rfl); (case hg => rfl); (case hr => first | (go_simp; done) | (go_simp; rfl)); intro gb160 hg w6 hbox hb; have q1_ : w6.cell? ⟨w.heap.size, 0, none⟩ = some (.string a1) := (blk_cell (blk_below (blk_alloc (blk_new w (.cells #[.string a1] 9)) (.cells #[.int .i64 a2] 3)) hb) 0).trans rfl; have q2_ : w6.cell? ⟨w.heap.size + 1, 0, none⟩ = some (.int .i64 a2) := (blk_cell (blk_below (by have h2 := blk_new (w.alloc (.cells #[.string a1] 9)) (.cells #[.int .i64 a2] 3); rw [alloc_size] at h2; exact h2) hb) 0).trans rfl; have n0_ := Aside0.mk (below_step (upB HB.out) hb); have n1_ := Aside0.mk (hbox); have n2_ := Aside0.mk ((by rw [hg]; exact (below_size (upB HB.out)) : w.heap.size ≤ gb160)); have n3_ := Aside0.mk ((by rw [hg]; exact (below_size (upB HB.out)) : w.heap.size ≤ gb160)); clear HB; have HB := n0_; have BK160 := n1_; have GW160 := n2_; have GE160 := n3_; clear n0_ n1_ n2_ n3_; clear hb hbox hg) | ((with_reducible refine gate_callee (f := 92) rfl ?_); refine goesL_ (some 11) rfl rfl Tryd.func92 (by kernel_rfl) rfl #[.slice A0 l0.length c0, .func (.func 93) #[] #[.pointer (some ⟨w.heap.size, 0, none⟩), .pointer (some ⟨(w.heap.size + 1), 0, none⟩)]] rfl argsB ?_; (with_reducible refine (impl_xAllowed.calls _ _ l0 a1 a2 t161 _ ?side1 ?side2 A4.out).mono ?_); (case side1 => repeat (first | exact (Kd.C_below HR0.out HB.out) | (with_reducible refine Kd.C_alloc ?_ _) | (with_reducible refine Kd.C_drewN ?_ _) | (with_reducible refine Kd.C_drew ?_))); (case side2 => exact HC0.out); rintro e w7 ⟨rfl, hb⟩; refine ⟨_, rfl, ?_⟩; have n0_ := Aside0.mk (blk_below (g := gb160) (o := .cells #[.int .i64 0, .string (⟨#[]⟩ : ByteArray), .int .i64 0, .int .i64 0, .int .i64 0, .int .i64 0] 26 (0, 0)) (upK BK160.out) hb); have n1_ := Aside0.mk (below_step (upB1 HB.out GE160.out) hb); clear BK160; clear HB; have BK160 := n0_; have HB := n1_; clear n0_ n1_; (try clear hb); have hcz8_0 := ci BK160.out 0 0 rfl; have hcz8_1 : w7.cell? ⟨gb160, 1, none⟩ = some (.string (⟨#[]⟩ : ByteArray)) := (blk_cell BK160.out 1).trans rfl; have hcz8_2 := ci BK160.out 2 0 rfl; have hcz8_3 := ci BK160.out 3 0 rfl; have hcz8_4 := ci BK160.out 4 0 rfl; have hcz8_5 := ci BK160.out 5 0 rfl; have hfz8_0 := fun j_ : Nat => blk_frozen BK160.out j_))
    refine bodyPost_ret (results_ct rfl _ _ gb160 26 #[.int .i64 0, .string (⟨#[]⟩ : ByteArray), .int .i64 0, .int .i64 0, .int .i64 0, .int .i64 0] (0, 0) _ rfl (by (with_reducible repeat (first | refine blk_drewN ?_ _ | refine blk_drew ?_ | refine blk_alloc ?_ _)); refine blk_put (cs := #[.int .i64 0, .string (⟨#[]⟩ : ByteArray), .int .i64 0, .int .i64 0, .int .i64 0, .int .i64 0]) ?_ 5 _ rfl; (with_reducible repeat (first | refine blk_drewN ?_ _ | refine blk_drew ?_ | refine blk_alloc ?_ _)); refine blk_put (cs := #[.int .i64 0, .string (⟨#[]⟩ : ByteArray), .int .i64 0, .int .i64 0, .int .i64 0, .int .i64 0]) ?_ 4 _ rfl; (with_reducible repeat (first | refine blk_drewN ?_ _ | refine blk_drew ?_ | refine blk_alloc ?_ _)); refine blk_put (cs := #[.int .i64 0, .string (⟨#[]⟩ : ByteArray), .int .i64 0, .int .i64 0, .int .i64 0, .int .i64 0]) ?_ 3 _ rfl; (with_reducible repeat (first | refine blk_drewN ?_ _ | refine blk_drew ?_ | refine blk_alloc ?_ _)); refine blk_put (cs := #[.int .i64 0, .string (⟨#[]⟩ : ByteArray), .int .i64 0, .int .i64 0, .int .i64 0, .int .i64 0]) ?_ 2 _ rfl; (with_reducible repeat (first | refine blk_drewN ?_ _ | refine blk_drew ?_ | refine blk_alloc ?_ _)); refine blk_put (cs := #[.int .i64 0, .string (⟨#[]⟩ : ByteArray), .int .i64 0, .int .i64 0, .int .i64 0, .int .i64 0]) ?_ 1 _ rfl; (with_reducible repeat (first | refine blk_drewN ?_ _ | refine blk_drew ?_ | refine blk_alloc ?_ _)); refine blk_put (cs := #[.int .i64 0, .string (⟨#[]⟩ : ByteArray), .int .i64 0, .int .i64 0, .int .i64 0, .int .i64 0]) ?_ 0 _ rfl; (with_reducible repeat (first | refine blk_drewN ?_ _ | refine blk_drew ?_ | refine blk_alloc ?_ _)); exact BK160.out) Tryd.underlying26 rfl (by kernel_rfl)) rfl ?_
    exact ⟨by first | rfl | (simp [errW_none, errW_some] <;> rfl) | (simp [*, errW_none, errW_some] <;> rfl), (upB1 HB.out GE160.out)⟩
  · rw [if_neg c5] at H
    have c5b0 : decide (t161 < 0) = false := decide_eq_false c5
    clear c5
    by_cases c9 : 0 ≤ t161
    · rw [if_pos c9] at H
      have c9b0 : decide (0 ≤ t161) = true := decide_eq_true c9
      clear c9
      by_cases c10 : t161 < (l0.length : Int)
      · rw [if_pos c10] at H
        have c10b0 : decide (t161 < (l0.length : Int)) = true := decide_eq_true c10
        clear c10
        simp only [Option.some.injEq, Prod.mk.injEq] at H
        obtain ⟨rfl, rfl, rfl, rfl, rfl, rfl, rfl⟩ := H
        go_enter Tryd.func65, Tryd.ntmps65
        go_wp2_with (first | ((with_reducible refine gate_dst (N := 6) rfl ?_); refine box_event ?hg (N := 6) ?hd (cs := #[.int .i64 0, .string (⟨#[]⟩ : ByteArray), .int .i64 0, .int .i64 0, .int .i64 0, .int .i64 0]) (t := 26) ?hr ?_; (case hd => rfl); (case hg => rfl); (case hr => first | (go_simp; done) | (go_simp; rfl)); intro gb160 hg w11 hbox hb; have q1_ : w11.cell? ⟨w.heap.size, 0, none⟩ = some (.string a1) := (blk_cell (blk_below (blk_alloc (blk_new w (.cells #[.string a1] 9)) (.cells #[.int .i64 a2] 3)) hb) 0).trans rfl; have q2_ : w11.cell? ⟨w.heap.size + 1, 0, none⟩ = some (.int .i64 a2) := (blk_cell (blk_below (by have h2 := blk_new (w.alloc (.cells #[.string a1] 9)) (.cells #[.int .i64 a2] 3); rw [alloc_size] at h2; exact h2) hb) 0).trans rfl; have n0_ := Aside0.mk (below_step (upB HB.out) hb); have n1_ := Aside0.mk (hbox); have n2_ := Aside0.mk ((by rw [hg]; exact (below_size (upB HB.out)) : w.heap.size ≤ gb160)); have n3_ := Aside0.mk ((by rw [hg]; exact (below_size (upB HB.out)) : w.heap.size ≤ gb160)); clear HB; have HB := n0_; have BK160 := n1_; have GW160 := n2_; have GE160 := n3_; clear n0_ n1_ n2_ n3_; clear hb hbox hg) | ((with_reducible refine gate_callee (f := 92) rfl ?_); refine goesL_ (some 11) rfl rfl Tryd.func92 (by kernel_rfl) rfl #[.slice A0 l0.length c0, .func (.func 93) #[] #[.pointer (some ⟨w.heap.size, 0, none⟩), .pointer (some ⟨(w.heap.size + 1), 0, none⟩)]] rfl argsB ?_; (with_reducible refine (impl_xAllowed.calls _ _ l0 a1 a2 t161 _ ?side1 ?side2 A4.out).mono ?_); (case side1 => repeat (first | exact (Kd.C_below HR0.out HB.out) | (with_reducible refine Kd.C_alloc ?_ _) | (with_reducible refine Kd.C_drewN ?_ _) | (with_reducible refine Kd.C_drew ?_))); (case side2 => exact HC0.out); rintro e w12 ⟨rfl, hb⟩; refine ⟨_, rfl, ?_⟩; have n0_ := Aside0.mk (blk_below (g := gb160) (o := .cells #[.int .i64 0, .string (⟨#[]⟩ : ByteArray), .int .i64 0, .int .i64 0, .int .i64 0, .int .i64 0] 26 (0, 0)) (upK BK160.out) hb); have n1_ := Aside0.mk (below_step (upB1 HB.out GE160.out) hb); clear BK160; clear HB; have BK160 := n0_; have HB := n1_; clear n0_ n1_; (try clear hb); have p162 : 0 ≤ (t161 : Int) := of_decide_eq_true asmB; have q162 : t161 < (l0.length : Int) := of_decide_eq_true asmB; obtain ⟨ad162, e162, hx162_0, hx162_1, hx162_2, hx162_3, hx162_4, hx162_5⟩ := at_T26 HR0.out t161 p162 q162; cases e162; replace hx162_0 := bx HB.out hx162_0; replace hx162_1 := bx HB.out hx162_1; replace hx162_2 := bx HB.out hx162_2; replace hx162_3 := bx HB.out hx162_3; replace hx162_4 := bx HB.out hx162_4; replace hx162_5 := bx HB.out hx162_5; replace p162 := eq_true p162; replace q162 := eq_true q162; have hcz13_0 := ci BK160.out 0 0 rfl; have hcz13_1 : w12.cell? ⟨gb160, 1, none⟩ = some (.string (⟨#[]⟩ : ByteArray)) := (blk_cell BK160.out 1).trans rfl; have hcz13_2 := ci BK160.out 2 0 rfl; have hcz13_3 := ci BK160.out 3 0 rfl; have hcz13_4 := ci BK160.out 4 0 rfl; have hcz13_5 := ci BK160.out 5 0 rfl; have hfz13_0 := fun j_ : Nat => blk_frozen BK160.out j_))
        refine bodyPost_ret (results_ct rfl _ _ gb160 26 #[.int .i64 ((rd_T26 l0 t161).f0), .string ((rd_T26 l0 t161).f1), .int .i64 ((rd_T26 l0 t161).f2), .int .i64 ((rd_T26 l0 t161).f3), .int .i64 ((rd_T26 l0 t161).f4), .int .i64 ((rd_T26 l0 t161).f5)] (0, 0) _ rfl (by (with_reducible repeat (first | refine blk_drewN ?_ _ | refine blk_drew ?_ | refine blk_alloc ?_ _)); refine blk_put (cs := #[.int .i64 ((rd_T26 l0 t161).f0), .string ((rd_T26 l0 t161).f1), .int .i64 ((rd_T26 l0 t161).f2), .int .i64 ((rd_T26 l0 t161).f3), .int .i64 ((rd_T26 l0 t161).f4), .int .i64 0]) ?_ 5 _ rfl; (with_reducible repeat (first | refine blk_drewN ?_ _ | refine blk_drew ?_ | refine blk_alloc ?_ _)); refine blk_put (cs := #[.int .i64 ((rd_T26 l0 t161).f0), .string ((rd_T26 l0 t161).f1), .int .i64 ((rd_T26 l0 t161).f2), .int .i64 ((rd_T26 l0 t161).f3), .int .i64 0, .int .i64 0]) ?_ 4 _ rfl; (with_reducible repeat (first | refine blk_drewN ?_ _ | refine blk_drew ?_ | refine blk_alloc ?_ _)); refine blk_put (cs := #[.int .i64 ((rd_T26 l0 t161).f0), .string ((rd_T26 l0 t161).f1), .int .i64 ((rd_T26 l0 t161).f2), .int .i64 0, .int .i64 0, .int .i64 0]) ?_ 3 _ rfl; (with_reducible repeat (first | refine blk_drewN ?_ _ | refine blk_drew ?_ | refine blk_alloc ?_ _)); refine blk_put (cs := #[.int .i64 ((rd_T26 l0 t161).f0), .string ((rd_T26 l0 t161).f1), .int .i64 0, .int .i64 0, .int .i64 0, .int .i64 0]) ?_ 2 _ rfl; (with_reducible repeat (first | refine blk_drewN ?_ _ | refine blk_drew ?_ | refine blk_alloc ?_ _)); refine blk_put (cs := #[.int .i64 ((rd_T26 l0 t161).f0), .string (⟨#[]⟩ : ByteArray), .int .i64 0, .int .i64 0, .int .i64 0, .int .i64 0]) ?_ 1 _ rfl; (with_reducible repeat (first | refine blk_drewN ?_ _ | refine blk_drew ?_ | refine blk_alloc ?_ _)); refine blk_put (cs := #[.int .i64 0, .string (⟨#[]⟩ : ByteArray), .int .i64 0, .int .i64 0, .int .i64 0, .int .i64 0]) ?_ 0 _ rfl; (with_reducible repeat (first | refine blk_drewN ?_ _ | refine blk_drew ?_ | refine blk_alloc ?_ _)); exact BK160.out) Tryd.underlying26 rfl (by kernel_rfl)) rfl ?_
        exact ⟨by first | rfl | (simp [errW_none, errW_some] <;> rfl) | (simp [*, errW_none, errW_some] <;> rfl), (upB1 HB.out GE160.out)⟩
      · rw [if_neg c10] at H
        exact absurd H (by simp)
    · rw [if_neg c9] at H
      exact absurd H (by simp)

/-! ### impl_AllowedOn: function 24 -/
def impl_AllowedOn.f (k : Nat) (l0 : List (S26)) (a1 : ByteArray) (a2 : Int) : Option (Int × Bool) := (impl_ArePermits.f k l0).bind fun t163 => (if t163 = true then ((impl_isWord.f a1).bind fun t164 => (if t164 = true then ((impl_isDay.f a2).bind fun t165 => (if t165 = true then ((impl_allowed.f l0 a1 a2).bind fun bt166 => (some (bt166.1, bt166.2.2.2.2.2.2))) else (some (0, false)))) else (some (0, false)))) else (some (0, false)))
theorem impl_AllowedOn.mono : ∀ a0 a1 a2 k, LeO (impl_AllowedOn.f k a0 a1 a2) (impl_AllowedOn.f (k + 1) a0 a1 a2) := by
 intro a0 a1 a2 k
 unfold impl_AllowedOn.f
 repeat' with_reducible first | apply impl_ArePermits.mono | exact LeO.refl _ | exact LeO.none _ | refine LeO.ite ?_ ?_ | refine LeO.bind ?_ (fun _ => ?_)
set_option maxHeartbeats 8000000 in
set_option maxRecDepth 100000 in
theorem impl_AllowedOn.calls (k : Nat) (A0 : Option Addr) (c0 : Nat) (l0 : List (S26)) (a1 : ByteArray) (a2 r1 : Int) (r2 : Bool) (w : World) (hr0 : Kd.C k26 w A0 l0.length l0) (hc0 : l0.length ≤ c0) (h : impl_AllowedOn.f k l0 a1 a2 = some (r1, r2)) :
  Calls Tryd.prog 24 #[.slice A0 l0.length c0, .string a1, .int .i64 a2] w fun e w' => e = .returned (.tuple #[.int .i64 r1, .bool r2]) ∧ Below w.heap.size w w' := by
 have hu26 := Tryd.underlying26
 have HR0 := Aside0.mk hr0
 have HC0 := Aside0.mk hc0
 clear hr0 hc0
 have HB := Aside0.mk (Below.refl w.heap.size w)
 have H := h
 clear h
 unfold impl_AllowedOn.f at H
 replace H := bA H
 obtain ⟨t163, A4, H⟩ := H
 rcases Bool.eq_false_or_eq_true t163 with rfl | rfl
 ·replace H := iT rfl H
  replace H := bA H
  obtain ⟨t164, A6, H⟩ := H
  rcases Bool.eq_false_or_eq_true t164 with rfl | rfl
  ·replace H := iT rfl H
   replace H := bA H
   obtain ⟨t165, A8, H⟩ := H
   rcases Bool.eq_false_or_eq_true t165 with rfl | rfl
   ·replace H := iT rfl H
    replace H := Option.bind_eq_some_iff.mp H
    obtain ⟨⟨t166, t167, t168, t169, t170, t171, t172⟩, A100, H⟩ := H
    replace H : (some (t166, t172)) = some (r1, r2) := H
    have A10 := Aside0.mk A100
    clear A100
    simp only [Option.some.injEq, Prod.mk.injEq] at H
    obtain ⟨rfl, rfl⟩ := H
    go_enter Tryd.func24, Tryd.ntmps24
    go_wp2_with (first | ((with_reducible refine gC 21 ?_); refine lA (some 11) Tryd.func21 (impl_ArePermits.calls k _ _ l0 true _ ?side1 ?side2 A4.out) ?_; (case side1 => repeat (first | exact HR0.out | (with_reducible refine Kd.C_alloc ?_ _) | (with_reducible refine Kd.C_drewN ?_ _) | (with_reducible refine Kd.C_drew ?_))); (case side2 => exact HC0.out); intro w11 hb; replace HB := uB HB hb; (try clear hb)) | (go_at_call 55; (with_reducible refine (impl_isWord.calls a1 true _ A6.out).mono ?_); rintro e w12 ⟨rfl, hb⟩; replace HB := uB HB hb; (try clear hb)) | (go_at_call 56; (with_reducible refine (impl_isDay.calls a2 true _ A8.out).mono ?_); rintro e w' ⟨rfl, ⟨nd, rfl⟩⟩; (try (rw [drewN_self w12]; generalize hq_ : World.drewN w12 _ = w12; have n0_ : Aside0 (Below w.heap.size w w12) := ⟨by rw [← hq_]; exact (bW HB)⟩; clear HB hq_; have HB := n0_; clear n0_))) | ((with_reducible refine gC 65 ?_); refine lA (some 27) Tryd.func65 (impl_allowed.calls _ _ l0 a1 a2 t166 t167 t168 t169 t170 t171 t172 _ ?side1 ?side2 A10.out) ?_; (case side1 => repeat (first | exact (Kd.C_below HR0.out HB.out) | (with_reducible refine Kd.C_alloc ?_ _) | (with_reducible refine Kd.C_drewN ?_ _) | (with_reducible refine Kd.C_drew ?_))); (case side2 => exact HC0.out); intro w13 hb; replace HB := uB HB hb; (try clear hb)) | ((with_reducible refine gD 8 ?_); refine bxE 8 26 #[.int .i64 0, .string (⟨#[]⟩ : ByteArray), .int .i64 0, .int .i64 0, .int .i64 0, .int .i64 0] fun gb173 w14 hg hbox hb => ?_; have BK173 := Aside0.mk hbox; have GE173 := gB HB hg; replace HB := uB HB hb; clear hb hbox hg; have hcz15_0 := ci BK173.out 0 0 rfl; have hcz15_1 : w14.cell? ⟨gb173, 1, none⟩ = some (.string (⟨#[]⟩ : ByteArray)) := cb BK173 1; have hcz15_2 := ci BK173.out 2 0 rfl; have hcz15_3 := ci BK173.out 3 0 rfl; have hcz15_4 := ci BK173.out 4 0 rfl; have hcz15_5 := ci BK173.out 5 0 rfl; have hfz15_0 := fun j_ : Nat => blk_frozen BK173.out j_))
    go_ret2
    exact ⟨eB, (bW HB)⟩
   ·replace H := iF (by decide) H
    simp only [Option.some.injEq, Prod.mk.injEq] at H
    obtain ⟨rfl, rfl⟩ := H
    go_enter Tryd.func24, Tryd.ntmps24
    go_wp2_with (first | ((with_reducible refine gC 21 ?_); refine lA (some 11) Tryd.func21 (impl_ArePermits.calls k _ _ l0 true _ ?side1 ?side2 A4.out) ?_; (case side1 => repeat (first | exact HR0.out | (with_reducible refine Kd.C_alloc ?_ _) | (with_reducible refine Kd.C_drewN ?_ _) | (with_reducible refine Kd.C_drew ?_))); (case side2 => exact HC0.out); intro w16 hb; replace HB := uB HB hb; (try clear hb)) | (go_at_call 55; (with_reducible refine (impl_isWord.calls a1 true _ A6.out).mono ?_); rintro e w17 ⟨rfl, hb⟩; replace HB := uB HB hb; (try clear hb)) | (go_at_call 56; (with_reducible refine (impl_isDay.calls a2 false _ A8.out).mono ?_); rintro e w' ⟨rfl, ⟨nd, rfl⟩⟩))
    go_ret2
    exact ⟨eB, (bW HB)⟩
  ·replace H := iF (by decide) H
   simp only [Option.some.injEq, Prod.mk.injEq] at H
   obtain ⟨rfl, rfl⟩ := H
   go_enter Tryd.func24, Tryd.ntmps24
   go_wp2_with (first | ((with_reducible refine gC 21 ?_); refine lA (some 11) Tryd.func21 (impl_ArePermits.calls k _ _ l0 true _ ?side1 ?side2 A4.out) ?_; (case side1 => repeat (first | exact HR0.out | (with_reducible refine Kd.C_alloc ?_ _) | (with_reducible refine Kd.C_drewN ?_ _) | (with_reducible refine Kd.C_drew ?_))); (case side2 => exact HC0.out); intro w18 hb; replace HB := uB HB hb; (try clear hb)) | (go_at_call 55; (with_reducible refine (impl_isWord.calls a1 false _ A6.out).mono ?_); rintro e w19 ⟨rfl, hb⟩; replace HB := uB HB hb; (try clear hb)))
   go_ret2
   exact ⟨eB, (bW HB)⟩
 ·replace H := iF (by decide) H
  simp only [Option.some.injEq, Prod.mk.injEq] at H
  obtain ⟨rfl, rfl⟩ := H
  go_enter Tryd.func24, Tryd.ntmps24
  go_wp2_with (first | ((with_reducible refine gC 21 ?_); refine lA (some 11) Tryd.func21 (impl_ArePermits.calls k _ _ l0 false _ ?side1 ?side2 A4.out) ?_; (case side1 => repeat (first | exact HR0.out | (with_reducible refine Kd.C_alloc ?_ _) | (with_reducible refine Kd.C_drewN ?_ _) | (with_reducible refine Kd.C_drew ?_))); (case side2 => exact HC0.out); intro w20 hb; replace HB := uB HB hb; (try clear hb)))
  go_ret2
  exact ⟨eB, (bW HB)⟩

/-! ### spec_l22With: function 71 -/
def spec_l22With.f (l0 : List (S26)) (a1 a2 : Int) : Option ((List (S26))) := (some (([] : List (S26)) : List (S26))).bind fun y174 => (if y174.length + l0.length < 2513169434916 then ((some (y174 ++ l0 : List (S26))).bind fun y177 => (if 0 ≤ a1 then (if a1 < (y177.length : Int) then (some (y177.set (a1 : Int).toNat (⟨(rd_T26 y177 a1).f0, (rd_T26 y177 a1).f1, (rd_T26 y177 a1).f2, (rd_T26 y177 a1).f3, (rd_T26 y177 a1).f4, a2⟩ : S26))) else (none)) else (none))) else (none))
set_option maxHeartbeats 8000000 in
set_option maxRecDepth 100000 in
theorem spec_l22With.calls (A0 : Option Addr) (c0 : Nat) (l0 : List (S26)) (a1 a2 : Int) (r : List (S26)) (w : World) (hr0 : Kd.C k26 w A0 l0.length l0) (hc0 : l0.length ≤ c0) (h : spec_l22With.f l0 a1 a2 = some r) :
  Calls Tryd.prog 71 #[.slice A0 l0.length c0, .int .i64 a1, .int .i64 a2] w fun e w' => ∃ v0_ : Value, e = .returned (v0_) ∧ Kd.R k26 26 w' w.heap.size (fun _ => True) v0_ r ∧ Below w.heap.size w w' := by
 have hu26 := Tryd.underlying26
 have HR0 := Aside0.mk hr0
 have HC0 := Aside0.mk hc0
 clear hr0 hc0
 have HB := Aside0.mk (Below.refl w.heap.size w)
 have H := h
 clear h
 unfold spec_l22With.f at H
 obtain ⟨y174, hy174⟩ : ∃ y_ : List (S26), y_ = (([] : List (S26))) := ⟨_, rfl⟩
 replace H : (if y174.length + l0.length < 2513169434916 then ((some (y174 ++ l0 : List (S26))).bind fun y177 => (if 0 ≤ a1 then (if a1 < (y177.length : Int) then (some (y177.set (a1 : Int).toNat (⟨(rd_T26 y177 a1).f0, (rd_T26 y177 a1).f1, (rd_T26 y177 a1).f2, (rd_T26 y177 a1).f3, (rd_T26 y177 a1).f4, a2⟩ : S26))) else (none)) else (none))) else (none)) = some r := by first | (rw [hy174]; with_reducible exact H) | (have H2_ := (Option.bind_some _ _).symm.trans H; rw [hy174]; with_reducible exact H2_) | (have H2_ := (Option.bind_some _ _).symm.trans H; with_reducible exact H2_) | with_reducible exact H | (rw [hy174]; exact H) | exact H
 have Ny174 := Aside0.mk hy174
 clear hy174
 by_cases c4 : y174.length + l0.length < 2513169434916
 ·rw [if_pos c4] at H
  have LMc4 := Aside0.mk c4
  clear c4
  obtain ⟨y177, hy177⟩ : ∃ y_ : List (S26), y_ = (y174 ++ l0) := ⟨_, rfl⟩
  replace H : (if 0 ≤ a1 then (if a1 < (y177.length : Int) then (some (y177.set (a1 : Int).toNat (⟨(rd_T26 y177 a1).f0, (rd_T26 y177 a1).f1, (rd_T26 y177 a1).f2, (rd_T26 y177 a1).f3, (rd_T26 y177 a1).f4, a2⟩ : S26))) else (none)) else (none)) = some r := by first | (rw [hy177]; with_reducible exact H) | (have H2_ := (Option.bind_some _ _).symm.trans H; rw [hy177]; with_reducible exact H2_) | (have H2_ := (Option.bind_some _ _).symm.trans H; with_reducible exact H2_) | with_reducible exact H | (rw [hy177]; exact H) | exact H
  have Ny177 := Aside0.mk hy177
  clear hy177
  by_cases c5 : 0 ≤ a1
  ·rw [if_pos c5] at H
   have c5b0 : decide (0 ≤ a1) = true := decide_eq_true c5
   clear c5
   by_cases c6 : a1 < (y177.length : Int)
   ·rw [if_pos c6] at H
    have c6b0 : decide (a1 < (y177.length : Int)) = true := decide_eq_true c6
    clear c6
    obtain ⟨y182, hy182⟩ : ∃ y_ : List (S26), y_ = (y177.set (a1 : Int).toNat (⟨(rd_T26 y177 a1).f0, (rd_T26 y177 a1).f1, (rd_T26 y177 a1).f2, (rd_T26 y177 a1).f3, (rd_T26 y177 a1).f4, a2⟩ : S26)) := ⟨_, rfl⟩
    replace H : (some y182) = some r := by first | (rw [hy182]; with_reducible exact H) | (have H2_ := (Option.bind_some _ _).symm.trans H; rw [hy182]; with_reducible exact H2_) | (have H2_ := (Option.bind_some _ _).symm.trans H; with_reducible exact H2_) | with_reducible exact H | (rw [hy182]; exact H) | exact H
    have Ny182 := Aside0.mk hy182
    clear hy182
    obtain rfl := Option.some.inj H
    go_enter Tryd.func71, Tryd.ntmps71
    go_wp2_with (first | ((with_reducible refine gate_dst (N := 9) rfl ?_); refine Kd.R_lit k26 _ 26 ?hg (N := 9) ?hd (xs := ([] : List (S26))) (inner := []) (ok := fun _ => True) (okp := fun _ => True) ?hr ?hp (fun _ hk => hk) trivial (Below.refl _ _) (Nat.le_refl _) (by simp) ?_; (case hd => rfl); (case hg => rfl); (case hr => first | (go_simp; done) | (go_simp; rfl)); (case hp => exact (Reps.none _ _)); intro v175 w8 ho9 hb hg_ hnew_; clear hg_ hnew_; (first | rw [← Ny174.out] at ho9 | (simp only [Int.reduceToNat] at ho9; rw [← Ny174.out] at ho9)); have HO176 := Aside0.mk (Kd.R_lower ho9 (below_size (bW HB))); replace HB := uB HB hb; clear hb ho9) | ((with_reducible refine gate_builtin (b := .append) (xs := #[.tmp 9, .tmp 10]) rfl ?_); at_builtin; refine Kd.R_append_rows k26 (w0 := w) w.heap.size rfl (.tmp 9) (.tmp 10) 32 26 (.agg #[(.int .i64 0), (.string ⟨#[]⟩), (.int .i64 0), (.int .i64 0), (.int .i64 0), (.int .i64 0)]) 56 rfl Tryd.underlying32 info26 rfl (by decide) (by omega) v175 y174 l0 _ _ _ (fun _ => True) (fun _ => False) rfl rfl ?aO ?aR (fun _ _ h => h) (fun _ h => h.elim) ?aF ?aB ?aS ?aL ?_; (case aR => repeat (first | exact (Kd.C_below HR0.out HB.out) | (with_reducible refine Kd.C_alloc ?_ _) | (with_reducible refine Kd.C_drewN ?_ _) | (with_reducible refine Kd.C_drew ?_))); (case aB => exact (bW HB)); (case aF => exact (fun _ _ => trivial)); (case aO => exact (upR HO176.out)); (case aS => exact (below_size (bW HB))); (case aL => have := LMc4.out; omega); intro v178 w10 ho hb hg hat; rw [← Ny177.out] at ho; have HO179 := Aside0.mk (ho); replace HB := Aside0.mk (hb); clear HO176; clear ho hb hg hat; obtain ⟨Ao11, co11, eo11⟩ := Kd.R_slice HO179.out; subst eo11; have p180 : 0 ≤ (a1 : Int) := of_decide_eq_true asmB; have q180 : a1 < (y177.length : Int) := of_decide_eq_true asmB; obtain ⟨ad180, e180, hx180_0, hx180_1, hx180_2, hx180_3, hx180_4, hx180_5⟩ := at_T26 (Kd.R_reads' HO179.out).2.2 a1 p180 q180; cases e180; replace p180 := eq_true p180; replace q180 := eq_true q180) | ((with_reducible refine gD 8 ?_); refine bxE 8 26 #[.int .i64 0, .string (⟨#[]⟩ : ByteArray), .int .i64 0, .int .i64 0, .int .i64 0, .int .i64 0] fun gb181 w12 hg hbox hb => ?_; have BK181 := Aside0.mk hbox; have GE181 := gB HB hg; replace HO179 := Aside0.mk (Kd.R_below (Kd.R_elderB (upR HO179.out) gb181 (Nat.le_of_eq hg.symm)) hb); replace HB := uB HB hb; clear hb hbox hg; have hcz13_0 := ci BK181.out 0 0 rfl; have hcz13_1 : w12.cell? ⟨gb181, 1, none⟩ = some (.string (⟨#[]⟩ : ByteArray)) := cb BK181 1; have hcz13_2 := ci BK181.out 2 0 rfl; have hcz13_3 := ci BK181.out 3 0 rfl; have hcz13_4 := ci BK181.out 4 0 rfl; have hcz13_5 := ci BK181.out 5 0 rfl; have hfz13_0 := fun j_ : Nat => blk_frozen BK181.out j_) | ((with_reducible refine gate_store (t := 26) (p := 8) rfl ?_); refine store_event (t := 26) (p := 8) (v := ?vo_w14) (w1 := ((((((w12.setCell ⟨gb181, 0, none⟩ (.int .i64 ((rd_T26 y177 a1).f0))).setCell ⟨gb181, 1, none⟩ (.string ((rd_T26 y177 a1).f1))).setCell ⟨gb181, 2, none⟩ (.int .i64 ((rd_T26 y177 a1).f2))).setCell ⟨gb181, 3, none⟩ (.int .i64 ((rd_T26 y177 a1).f3))).setCell ⟨gb181, 4, none⟩ (.int .i64 ((rd_T26 y177 a1).f4))).setCell ⟨gb181, 5, none⟩ (.int .i64 ((rd_T26 y177 a1).f5)))) ?hg ?ho ?hn ?hr ?_; (case ho => rfl); (case hg => rfl); (case hn => rfl); (case hr => first | (go_simp; done) | (go_simp; rfl)); intro w14 hw; have n0_ : Aside0 (Kd.R k26 26 w14 w.heap.size (fun k_ => k_ ≠ gb181) (.slice (some ad180) y177.length co11) y177) := ⟨(by rw [hw]; exact (by (with_reducible repeat (first | apply Kd.R_alloc | apply Kd.R_drewN | apply Kd.R_drew)); exact Kd.R_mono (Kd.R_far (p := ⟨gb181, 5, none⟩) (Kd.R_far (p := ⟨gb181, 4, none⟩) (Kd.R_far (p := ⟨gb181, 3, none⟩) (Kd.R_far (p := ⟨gb181, 2, none⟩) (Kd.R_far (p := ⟨gb181, 1, none⟩) (Kd.R_far (p := ⟨gb181, 0, none⟩) (Kd.R_mono HO179.out (fun k_ hk => (⟨hk, hk.2⟩ : _ ∧ k_ ≠ gb181))) (fun _ hk => hk.2) (.int .i64 ((rd_T26 y177 a1).f0))) (fun _ hk => hk.2) (.string ((rd_T26 y177 a1).f1))) (fun _ hk => hk.2) (.int .i64 ((rd_T26 y177 a1).f2))) (fun _ hk => hk.2) (.int .i64 ((rd_T26 y177 a1).f3))) (fun _ hk => hk.2) (.int .i64 ((rd_T26 y177 a1).f4))) (fun _ hk => hk.2) (.int .i64 ((rd_T26 y177 a1).f5))) (fun _ hk => hk.1.2)))⟩; have n1_ : Aside0 (w14.heap[gb181]? = some (.cells #[.int .i64 ((rd_T26 y177 a1).f0), .string ((rd_T26 y177 a1).f1), .int .i64 ((rd_T26 y177 a1).f2), .int .i64 ((rd_T26 y177 a1).f3), .int .i64 ((rd_T26 y177 a1).f4), .int .i64 ((rd_T26 y177 a1).f5)] 26 (0, 0))) := ⟨(by rw [hw]; exact (by exact pW BK181))⟩; have n2_ : Aside0 (Below w.heap.size w w14) := ⟨(by rw [hw]; exact (bW HB))⟩; clear hw; clear HO179; clear BK181; clear HB; have HO179 := n0_; have BK181 := n1_; have HB := n2_; clear n0_ n1_ n2_; have hcz15_0 := ci BK181.out 0 ((rd_T26 y177 a1).f0) rfl; have hcz15_1 : w14.cell? ⟨gb181, 1, none⟩ = some (.string ((rd_T26 y177 a1).f1)) := cb BK181 1; have hcz15_2 := ci BK181.out 2 ((rd_T26 y177 a1).f2) rfl; have hcz15_3 := ci BK181.out 3 ((rd_T26 y177 a1).f3) rfl; have hcz15_4 := ci BK181.out 4 ((rd_T26 y177 a1).f4) rfl; have hcz15_5 := ci BK181.out 5 ((rd_T26 y177 a1).f5) rfl; have hfz15_0 := fun j_ : Nat => blk_frozen BK181.out j_) | ((with_reducible refine gate_store (t := 3) (p := 17) rfl ?_); refine store_event (t := 3) (p := 17) (v := ?vo_w16) (w1 := (w14.setCell ⟨gb181, 5, none⟩ (.int .i64 a2))) ?hg ?ho ?hn ?hr ?_; (case ho => rfl); (case hg => rfl); (case hn => rfl); (case hr => first | (go_simp; done) | (go_simp; rfl)); intro w16 hw; have n0_ : Aside0 (Kd.R k26 26 w16 w.heap.size (fun k_ => k_ ≠ gb181) (.slice (some ad180) y177.length co11) y177) := ⟨(by rw [hw]; exact (by (with_reducible repeat (first | apply Kd.R_alloc | apply Kd.R_drewN | apply Kd.R_drew)); exact Kd.R_mono (Kd.R_far (p := ⟨gb181, 5, none⟩) (Kd.R_mono HO179.out (fun k_ hk => (⟨hk, hk⟩ : _ ∧ k_ ≠ gb181))) (fun _ hk => hk.2) (.int .i64 a2)) (fun _ hk => hk.1)))⟩; have n1_ : Aside0 (w16.heap[gb181]? = some (.cells #[.int .i64 ((rd_T26 y177 a1).f0), .string ((rd_T26 y177 a1).f1), .int .i64 ((rd_T26 y177 a1).f2), .int .i64 ((rd_T26 y177 a1).f3), .int .i64 ((rd_T26 y177 a1).f4), .int .i64 a2] 26 (0, 0))) := ⟨(by rw [hw]; exact (by exact pW BK181))⟩; have n2_ : Aside0 (Below w.heap.size w w16) := ⟨(by rw [hw]; exact (bW HB))⟩; clear hw; clear HO179; clear BK181; clear HB; have HO179 := n0_; have BK181 := n1_; have HB := n2_; clear n0_ n1_ n2_; have hcz17_0 := ci BK181.out 0 ((rd_T26 y177 a1).f0) rfl; have hcz17_1 : w16.cell? ⟨gb181, 1, none⟩ = some (.string ((rd_T26 y177 a1).f1)) := cb BK181 1; have hcz17_2 := ci BK181.out 2 ((rd_T26 y177 a1).f2) rfl; have hcz17_3 := ci BK181.out 3 ((rd_T26 y177 a1).f3) rfl; have hcz17_4 := ci BK181.out 4 ((rd_T26 y177 a1).f4) rfl; have hcz17_5 := ci BK181.out 5 a2 rfl; have hfz17_0 := fun j_ : Nat => blk_frozen BK181.out j_; have p7 : 0 ≤ (a1 : Int) := of_decide_eq_true asmB; have q7 : (a1 : Int) < ((y177.length : Int) : Int) := of_decide_eq_true asmB; obtain ⟨go7, co7, eo7, gb7, gl7, cl7, HG7⟩ := Kd.R_form HO179.out (by omega); (first | cases eo7 | (injection eo7 with ea_ en_ ec_; (first | subst ea_ | (injection ea_ with ea_; subst ea_)); subst ec_; clear en_)); have GB7 := Aside0.mk gb7; have GG7 := Aside0.mk HG7; clear gb7 gl7 HG7; (first | simp only [add_plain] at hx180_0 | skip); (first | simp only [add_plain] at hx180_1 | skip); (first | simp only [add_plain] at hx180_2 | skip); (first | simp only [add_plain] at hx180_3 | skip); (first | simp only [add_plain] at hx180_4 | skip); (first | simp only [add_plain] at hx180_5 | skip); obtain ⟨ce7, hcl7, hM7, hcc7, hfr7⟩ := Kd.R_elem HO179.out z26 (a1 : Int) p7 q7; obtain rfl := k26_openM hM7; have hx7_0 : w16.cell? ⟨go7, (a1 : Int).toNat * 6, none⟩ = some (.int .i64 ((rd_T26 y177 a1).f0)) := hcc7 0 _ rfl; have hx7_1 : w16.cell? ⟨go7, (a1 : Int).toNat * 6 + 1, none⟩ = some (.string ((rd_T26 y177 a1).f1)) := hcc7 1 _ rfl; have hx7_2 : w16.cell? ⟨go7, (a1 : Int).toNat * 6 + 2, none⟩ = some (.int .i64 ((rd_T26 y177 a1).f2)) := hcc7 2 _ rfl; have hx7_3 : w16.cell? ⟨go7, (a1 : Int).toNat * 6 + 3, none⟩ = some (.int .i64 ((rd_T26 y177 a1).f3)) := hcc7 3 _ rfl; have hx7_4 : w16.cell? ⟨go7, (a1 : Int).toNat * 6 + 4, none⟩ = some (.int .i64 ((rd_T26 y177 a1).f4)) := hcc7 4 _ rfl; have hx7_5 : w16.cell? ⟨go7, (a1 : Int).toNat * 6 + 5, none⟩ = some (.int .i64 ((rd_T26 y177 a1).f5)) := hcc7 5 _ rfl; have hf7_0 : w16.frozen? ⟨go7, (a1 : Int).toNat * 6, none⟩ = false := hfr7 0; have hf7_1 : w16.frozen? ⟨go7, (a1 : Int).toNat * 6 + 1, none⟩ = false := hfr7 1; have hf7_2 : w16.frozen? ⟨go7, (a1 : Int).toNat * 6 + 2, none⟩ = false := hfr7 2; have hf7_3 : w16.frozen? ⟨go7, (a1 : Int).toNat * 6 + 3, none⟩ = false := hfr7 3; have hf7_4 : w16.frozen? ⟨go7, (a1 : Int).toNat * 6 + 4, none⟩ = false := hfr7 4; have hf7_5 : w16.frozen? ⟨go7, (a1 : Int).toNat * 6 + 5, none⟩ = false := hfr7 5; clear hcl7 hcc7 hfr7 hM7; replace p7 := eq_true p7; replace q7 := eq_true q7; have HX18 := Aside0.mk (show Kd.R k26 26 w16 w.heap.size (fun k_ => k_ ≠ gb181) (.slice (some ⟨go7, 0, none⟩) y177.length co11) y177 from (upR HO179.out)); obtain ⟨ce18, hcl18, hM18, hcc18, hfr18⟩ := Kd.R_elem HX18.out z26 (a1 : Int) (of_decide_eq_true asmB) (by have h_ : (a1 : Int) < ((y177.length : Int) : Int) := of_decide_eq_true asmB; first | exact h_ | (have e_ := (Kd.R_reads' HO179.out).1; omega) | simpa using h_); obtain rfl := k26_openM hM18; have HP18 := Kd.R_seg HX18.out (a1 : Int) (of_decide_eq_true asmB) (by have h_ : (a1 : Int) < ((y177.length : Int) : Int) := of_decide_eq_true asmB; first | exact h_ | (have e_ := (Kd.R_reads' HO179.out).1; omega) | simpa using h_) (seg := [.int .i64 ((rd_T26 y177 a1).f0), .string ((rd_T26 y177 a1).f1), .int .i64 ((rd_T26 y177 a1).f2), .int .i64 ((rd_T26 y177 a1).f3), .int .i64 ((rd_T26 y177 a1).f4), .int .i64 a2]) (j := 0) hcl18 hcc18 (show 6 ≤ 6 from by decide) (x' := (⟨(rd_T26 y177 a1).f0, (rd_T26 y177 a1).f1, (rd_T26 y177 a1).f2, (rd_T26 y177 a1).f3, (rd_T26 y177 a1).f4, a2⟩ : S26)) (k26_mkM _ _ _ (⟨(rd_T26 y177 a1).f0, (rd_T26 y177 a1).f1, (rd_T26 y177 a1).f2, (rd_T26 y177 a1).f3, (rd_T26 y177 a1).f4, a2⟩ : S26) ) (fun _ hk => hk); have hx18_0 := hcc18 0 _ rfl; (try simp only [show (k26).sz = 6 from rfl, Nat.mul_one, Nat.add_zero] at hx18_0); have hf18_0 := hfr18 0; (try simp only [show (k26).sz = 6 from rfl, Nat.mul_one, Nat.add_zero] at hf18_0); have hx18_1 := hcc18 1 _ rfl; (try simp only [show (k26).sz = 6 from rfl, Nat.mul_one, Nat.add_zero] at hx18_1); have hf18_1 := hfr18 1; (try simp only [show (k26).sz = 6 from rfl, Nat.mul_one, Nat.add_zero] at hf18_1); have hx18_2 := hcc18 2 _ rfl; (try simp only [show (k26).sz = 6 from rfl, Nat.mul_one, Nat.add_zero] at hx18_2); have hf18_2 := hfr18 2; (try simp only [show (k26).sz = 6 from rfl, Nat.mul_one, Nat.add_zero] at hf18_2); have hx18_3 := hcc18 3 _ rfl; (try simp only [show (k26).sz = 6 from rfl, Nat.mul_one, Nat.add_zero] at hx18_3); have hf18_3 := hfr18 3; (try simp only [show (k26).sz = 6 from rfl, Nat.mul_one, Nat.add_zero] at hf18_3); have hx18_4 := hcc18 4 _ rfl; (try simp only [show (k26).sz = 6 from rfl, Nat.mul_one, Nat.add_zero] at hx18_4); have hf18_4 := hfr18 4; (try simp only [show (k26).sz = 6 from rfl, Nat.mul_one, Nat.add_zero] at hf18_4); have hx18_5 := hcc18 5 _ rfl; (try simp only [show (k26).sz = 6 from rfl, Nat.mul_one, Nat.add_zero] at hx18_5); have hf18_5 := hfr18 5; (try simp only [show (k26).sz = 6 from rfl, Nat.mul_one, Nat.add_zero] at hf18_5); clear hcl18 hcc18 hfr18 hM18) | ((with_reducible refine gate_store (t := 26) (p := 21) rfl ?_); refine store_event (t := 26) (p := 21) (v := ?vo_w19) (w1 := ((((((w16.setCell ⟨go7, (a1 : Int).toNat * 6, none⟩ (.int .i64 ((rd_T26 y177 a1).f0))).setCell ⟨go7, (a1 : Int).toNat * 6 + 1, none⟩ (.string ((rd_T26 y177 a1).f1))).setCell ⟨go7, (a1 : Int).toNat * 6 + 2, none⟩ (.int .i64 ((rd_T26 y177 a1).f2))).setCell ⟨go7, (a1 : Int).toNat * 6 + 3, none⟩ (.int .i64 ((rd_T26 y177 a1).f3))).setCell ⟨go7, (a1 : Int).toNat * 6 + 4, none⟩ (.int .i64 ((rd_T26 y177 a1).f4))).setCell ⟨go7, (a1 : Int).toNat * 6 + 5, none⟩ (.int .i64 a2))) ?hg ?ho ?hn ?hr ?_; (case ho => rfl); (case hg => rfl); (case hn => rfl); (case hr => first | (go_simp; done) | (go_simp; rfl)); intro w19 hw; have hg : w16.grownBy w19 (some go7) := (by rw [hw]; exact HP18.2); have hp_ : Kd.R k26 26 w19 w.heap.size (fun k_ => k_ ≠ gb181) (.slice (some ⟨go7, 0, none⟩) y177.length co11) y182 := (by rw [hw, Ny182.out]; exact HP18.1); clear HP18; replace BK181 := Aside0.mk (blk_grown (g := gb181) (o := .cells #[.int .i64 ((rd_T26 y177 a1).f0), .string ((rd_T26 y177 a1).f1), .int .i64 ((rd_T26 y177 a1).f2), .int .i64 ((rd_T26 y177 a1).f3), .int .i64 ((rd_T26 y177 a1).f4), .int .i64 a2] 26 (0, 0)) (upK BK181.out) hg (Kd.R_away HO179.out (fun _ hk => hk))); replace HO179 := Aside0.mk (hp_); replace HB := Aside0.mk ((by rw [hw]; exact below_set (below_set (below_set (below_set (below_set (below_set (HB.out) GB7.out) GB7.out) GB7.out) GB7.out) GB7.out) GB7.out : Below w.heap.size w w19)); clear hg hw hp_))
    go_ret
    exact ⟨_, eB, by (with_reducible repeat (first | apply Kd.R_alloc | apply Kd.R_drewN | apply Kd.R_drew)); exact Kd.R_mono HO179.out (fun _ hk => trivial), (bW HB)⟩
   ·rw [if_neg c6] at H
    exact absurd H (by simp)
  ·rw [if_neg c5] at H
   exact absurd H (by simp)
 ·rw [if_neg c4] at H
  exact absurd H (by simp)

/-! ### spec_LapsePermits: function 31 -/
mutual
def spec_LapsePermits.j0 : Nat → List (S26) → Int → Bool → Option ((List (S26)) × Int × Bool)
 | 0, _, _, _ => none
 | k + 1, x0, x1, x17 => if x17 = true then (some ((([] : List (S26))), 0, false)) else ((some (([] : List (S26)) : List (S26))).bind fun y188 => (if y188.length + x0.length < 2513169434916 then (spec_LapsePermits.l0 k x1 (y188 ++ x0) 0 0) else (none)))
def spec_LapsePermits.l0 : Nat → Int → List (S26) → Int → Int → Option ((List (S26)) × Int × Bool)
 | 0, _, _, _, _ => none
 | k + 1, x1, x7, x8, x9 => if x9 < (x7.length : Int) then (if 0 ≤ x9 then ((spec_l22Holds.f ((rd_T26 x7 x9).f0) ((rd_T26 x7 x9).f1) ((rd_T26 x7 x9).f2) ((rd_T26 x7 x9).f3) ((rd_T26 x7 x9).f4) ((rd_T26 x7 x9).f5)).bind fun t195 => (if t195 = true then (if ((rd_T26 x7 x9).f3) < x1 then ((spec_l22With.f x7 x9 4).bind fun t197 => (spec_LapsePermits.l0 k x1 t197 (wrap64 (x8 + 1)) (wrap64 (x9 + 1)))) else (spec_LapsePermits.l0 k x1 x7 x8 (wrap64 (x9 + 1)))) else (spec_LapsePermits.l0 k x1 x7 x8 (wrap64 (x9 + 1))))) else (none)) else (some (x7, x8, true))
end
def spec_LapsePermits.f (k : Nat) (l0 : List (S26)) (a1 : Int) : Option ((List (S26)) × Int × Bool) := (spec_l22Good.f k l0).bind fun t183 => (if t183 = true then ((spec_l22Day.f a1).bind fun t184 => (spec_LapsePermits.j0 k l0 a1 (!t184))) else (spec_LapsePermits.j0 k l0 a1 true))
theorem spec_LapsePermits.mono_l : ∀ k, (∀ y0 y1 y2, LeO (spec_LapsePermits.j0 k y0 y1 y2) (spec_LapsePermits.j0 (k + 1) y0 y1 y2)) ∧ (∀ y0 y1 y2 y3, LeO (spec_LapsePermits.l0 k y0 y1 y2 y3) (spec_LapsePermits.l0 (k + 1) y0 y1 y2 y3))
 | 0 => ⟨fun _ _ _ r h => by simp [spec_LapsePermits.j0] at h, fun _ _ _ _ r h => by simp [spec_LapsePermits.l0] at h⟩
 | k + 1 => by
  obtain ⟨ih0, ih1⟩ := spec_LapsePermits.mono_l k
  refine ⟨?_, ?_⟩
  ·intro y0 y1 y2
   unfold spec_LapsePermits.j0
   repeat' with_reducible first | apply ih0 | apply ih1 | apply spec_l22Good.mono | exact LeO.refl _ | exact LeO.none _ | refine LeO.ite ?_ ?_ | refine LeO.bind ?_ (fun _ => ?_)
  ·intro y0 y1 y2 y3
   unfold spec_LapsePermits.l0
   repeat' with_reducible first | apply ih0 | apply ih1 | apply spec_l22Good.mono | exact LeO.refl _ | exact LeO.none _ | refine LeO.ite ?_ ?_ | refine LeO.bind ?_ (fun _ => ?_)
theorem spec_LapsePermits.mono : ∀ a0 a1 k, LeO (spec_LapsePermits.f k a0 a1) (spec_LapsePermits.f (k + 1) a0 a1) := by
 intro a0 a1 k
 obtain ⟨ih0, ih1⟩ := spec_LapsePermits.mono_l k
 unfold spec_LapsePermits.f
 repeat' with_reducible first | apply ih0 | apply ih1 | apply spec_l22Good.mono | exact LeO.refl _ | exact LeO.none _ | refine LeO.ite ?_ ?_ | refine LeO.bind ?_ (fun _ => ?_)
set_option maxHeartbeats 8000000 in
set_option maxRecDepth 100000 in
theorem spec_LapsePermits.calls (k : Nat) (A0 : Option Addr) (c0 : Nat) (l0 : List (S26)) (a1 : Int) (r1 : List (S26)) (r2 : Int) (r3 : Bool) (w : World) (hr0 : Kd.C k26 w A0 l0.length l0) (hc0 : l0.length ≤ c0) (h : spec_LapsePermits.f k l0 a1 = some (r1, r2, r3)) :
  Calls Tryd.prog 31 #[.slice A0 l0.length c0, .int .i64 a1] w fun e w' => ∃ v0_ : Value, e = .returned (.tuple #[v0_, .int .i64 r2, .bool r3]) ∧ Kd.R k26 26 w' w.heap.size (fun _ => True) v0_ r1 ∧ Below w.heap.size w w' := by
 have hu26 := Tryd.underlying26
 have HR0 := Aside0.mk hr0
 have HC0 := Aside0.mk hc0
 clear hr0 hc0
 have HB := Aside0.mk (Below.refl w.heap.size w)
 have H := h
 clear h
 unfold spec_LapsePermits.f at H
 have HC3 := Aside0.mk H
 clear H
 go_enter Tryd.func31, Tryd.ntmps31
 go_upto_region 1 with (fail)
 go_cut [17] (fun v17 wc => ∃ (kq : Nat) (x17_2 : Bool), v17 = .bool x17_2 ∧ Aside0 (spec_LapsePermits.j0 kq l0 a1 x17_2 = some (r1, r2, r3)) ∧ Aside0 (kq ≤ k) ∧ Aside0 (Below w.heap.size w wc))
 case first =>
  have H := HC3.out
  clear HC3
  replace H := bA H
  obtain ⟨t183, A4, H⟩ := H
  rcases Bool.eq_false_or_eq_true t183 with rfl | rfl
  ·replace H := iT rfl H
   replace H := bA H
   obtain ⟨t184, A6, H⟩ := H
   have H' := Aside0.mk H
   clear H
   go_wp2_with (first | ((with_reducible refine gC 58 ?_); refine lA (some 11) Tryd.func58 (spec_l22Good.calls k _ _ l0 true _ ?side1 ?side2 A4.out) ?_; (case side1 => repeat (first | exact (Kd.C_below HR0.out HB.out) | (with_reducible refine Kd.C_alloc ?_ _) | (with_reducible refine Kd.C_drewN ?_ _) | (with_reducible refine Kd.C_drew ?_))); (case side2 => exact HC0.out); intro w7 hb; replace HB := uB HB hb; (try clear hb); (try clear hk)) | (go_at_call 63; (with_reducible refine (spec_l22Day.calls a1 t184 _ A6.out).mono ?_); rintro e w' ⟨rfl, ⟨nd, rfl⟩⟩))
   go_meet
   case rel => exact ⟨_, (!t184), rB, H', leB, (aB HB)⟩
  ·replace H := iF (by decide) H
   have H' := Aside0.mk H
   clear H
   go_wp2_with (first | ((with_reducible refine gC 58 ?_); refine lA (some 11) Tryd.func58 (spec_l22Good.calls k _ _ l0 false _ ?side1 ?side2 A4.out) ?_; (case side1 => repeat (first | exact (Kd.C_below HR0.out HB.out) | (with_reducible refine Kd.C_alloc ?_ _) | (with_reducible refine Kd.C_drewN ?_ _) | (with_reducible refine Kd.C_drew ?_))); (case side2 => exact HC0.out); intro w8 hb; replace HB := uB HB hb; (try clear hb); (try clear hk)))
   go_meet
   case rel => exact ⟨_, (true), rB, H', leB, (aB HB)⟩
 case rest =>
  clear HC3
  obtain ⟨kq, x17_2, rfl, HA, HJ2, HB⟩ := hcut
  cases kq with
  | zero => exact absurd HA.out (by simp [spec_LapsePermits.j0])
  | succ kj2 =>
   have H := HA.out
   clear HA
   simp only [spec_LapsePermits.j0] at H
   rcases Bool.eq_false_or_eq_true x17_2 with rfl | rfl
   ·replace H := iT rfl H
    obtain ⟨y185, hy185⟩ : ∃ y_ : List (S26), y_ = (([] : List (S26))) := ⟨_, rfl⟩
    replace H : (some (y185, 0, false)) = some (r1, r2, r3) := by first | (rw [hy185]; with_reducible exact H) | (have H2_ := (Option.bind_some _ _).symm.trans H; rw [hy185]; with_reducible exact H2_) | (have H2_ := (Option.bind_some _ _).symm.trans H; with_reducible exact H2_) | with_reducible exact H | (rw [hy185]; exact H) | exact H
    have Ny185 := Aside0.mk hy185
    clear hy185
    simp only [Option.some.injEq, Prod.mk.injEq] at H
    obtain ⟨rfl, rfl, rfl⟩ := H
    go_wp2_with (first | ((with_reducible refine gate_dst (N := 18) rfl ?_); refine Kd.R_lit k26 _ 26 ?hg (N := 18) ?hd (xs := ([] : List (S26))) (inner := []) (ok := fun _ => True) (okp := fun _ => True) ?hr ?hp (fun _ hk => hk) trivial (Below.refl _ _) (Nat.le_refl _) (by simp) ?_; (case hd => rfl); (case hg => rfl); (case hr => first | (go_simp; done) | (go_simp; rfl)); (case hp => exact (Reps.none _ _)); intro v186 w10 ho11 hb hg_ hnew_; clear hg_ hnew_; (first | rw [← Ny185.out] at ho11 | (simp only [Int.reduceToNat] at ho11; rw [← Ny185.out] at ho11)); have HO187 := Aside0.mk (Kd.R_lower ho11 (below_size (bW HB))); replace HB := uB HB hb; clear hb ho11))
    go_ret3
    exact ⟨_, eB, upR HO187.out, (bW HB)⟩
   ·replace H := iF (by decide) H
    obtain ⟨y188, hy188⟩ : ∃ y_ : List (S26), y_ = (([] : List (S26))) := ⟨_, rfl⟩
    replace H : (if y188.length + l0.length < 2513169434916 then (spec_LapsePermits.l0 kj2 a1 (y188 ++ l0) 0 0) else (none)) = some (r1, r2, r3) := by first | (rw [hy188]; with_reducible exact H) | (have H2_ := (Option.bind_some _ _).symm.trans H; rw [hy188]; with_reducible exact H2_) | (have H2_ := (Option.bind_some _ _).symm.trans H; with_reducible exact H2_) | with_reducible exact H | (rw [hy188]; exact H) | exact H
    have Ny188 := Aside0.mk hy188
    clear hy188
    by_cases c12 : y188.length + l0.length < 2513169434916
    ·rw [if_pos c12] at H
     have LMc12 := Aside0.mk c12
     clear c12
     obtain ⟨y191, hy191⟩ : ∃ y_ : List (S26), y_ = (y188 ++ l0) := ⟨_, rfl⟩
     replace H : (spec_LapsePermits.l0 kj2 a1 y191 0 0) = some (r1, r2, r3) := by first | (rw [hy191]; with_reducible exact H) | (have H2_ := (Option.bind_some _ _).symm.trans H; rw [hy191]; with_reducible exact H2_) | (have H2_ := (Option.bind_some _ _).symm.trans H; with_reducible exact H2_) | with_reducible exact H | (rw [hy191]; exact H) | exact H
     have Ny191 := Aside0.mk hy191
     clear hy191
     have H' := Aside0.mk H
     clear H
     go_wp2_with (first | ((with_reducible refine gate_dst (N := 19) rfl ?_); refine Kd.R_lit k26 _ 26 ?hg (N := 19) ?hd (xs := ([] : List (S26))) (inner := []) (ok := fun _ => True) (okp := fun _ => True) ?hr ?hp (fun _ hk => hk) trivial (Below.refl _ _) (Nat.le_refl _) (by simp) ?_; (case hd => rfl); (case hg => rfl); (case hr => first | (go_simp; done) | (go_simp; rfl)); (case hp => exact (Reps.none _ _)); intro v189 w13 ho14 hb hg_ hnew_; clear hg_ hnew_; (first | rw [← Ny188.out] at ho14 | (simp only [Int.reduceToNat] at ho14; rw [← Ny188.out] at ho14)); have HO190 := Aside0.mk (Kd.R_lower ho14 (below_size (bW HB))); replace HB := uB HB hb; clear hb ho14) | ((with_reducible refine gate_builtin (b := .append) (xs := #[.tmp 19, .tmp 20]) rfl ?_); at_builtin; refine Kd.R_append_rows k26 (w0 := w) w.heap.size rfl (.tmp 19) (.tmp 20) 32 26 (.agg #[(.int .i64 0), (.string ⟨#[]⟩), (.int .i64 0), (.int .i64 0), (.int .i64 0), (.int .i64 0)]) 56 rfl Tryd.underlying32 info26 rfl (by decide) (by omega) v189 y188 l0 _ _ _ (fun _ => True) (fun _ => False) rfl rfl ?aO ?aR (fun _ _ h => h) (fun _ h => h.elim) ?aF ?aB ?aS ?aL ?_; (case aR => repeat (first | exact (Kd.C_below HR0.out HB.out) | (with_reducible refine Kd.C_alloc ?_ _) | (with_reducible refine Kd.C_drewN ?_ _) | (with_reducible refine Kd.C_drew ?_))); (case aB => exact (bW HB)); (case aF => exact (fun _ _ => trivial)); (case aO => exact (upR HO190.out)); (case aS => exact (below_size (bW HB))); (case aL => have := LMc12.out; omega); intro v192 w15 ho hb hg hat; rw [← Ny191.out] at ho; have HO193 := Aside0.mk (ho); replace HB := Aside0.mk (hb); clear HO190; clear ho hb hg hat))
     (try simp only [Act.put, List.setIfInBounds_toArray, List.set_cons_zero, List.set_cons_succ])
     go_loopg [7, 8, 9] kj2 (fun kq v7 v8 v9 w' => ∃ (x7_2 : List (S26)) (x8_2 x9_2 : Int), v8 = .int .i64 x8_2 ∧ v9 = .int .i64 x9_2 ∧ Aside0 (spec_LapsePermits.l0 kq a1 x7_2 x8_2 x9_2 = some (r1, r2, r3)) ∧ Aside0 (kq ≤ kj2) ∧ Aside0 (Kd.R k26 26 w' w.heap.size (fun _ => True) v7 x7_2) ∧ Aside0 (Below w.heap.size w w'))
     case atStart => exact ⟨(y191), (0), (0), rB, rB, H', ⟨Nat.le_refl _⟩, ⟨upR HO193.out⟩, (aB HB)⟩
     case round =>
      clear H'
      try clear c12
      obtain ⟨x7_2, x8_2, x9_2, rfl, rfl, HA, HK2, HO_7, HB⟩ := hrel
      cases gk with
      | zero => exact absurd HA.out (by simp [spec_LapsePermits.l0])
      | succ k2 =>
       have H := HA.out
       clear HA
       simp only [spec_LapsePermits.l0] at H
       replace H := ifD H
       rcases H with ⟨H, -, c16b0⟩ | ⟨H, -, c16b0⟩
       ·by_cases c17 : 0 ≤ x9_2
        ·rw [if_pos c17] at H
         have c17b0 : decide (0 ≤ x9_2) = true := decide_eq_true c17
         clear c17
         replace H := bA H
         obtain ⟨t195, A18, H⟩ := H
         rcases Bool.eq_false_or_eq_true t195 with rfl | rfl
         ·replace H := iT rfl H
          replace H := ifD H
          rcases H with ⟨H, -, c20b0⟩ | ⟨H, -, c20b0⟩
          ·replace H := bA H
           obtain ⟨t197, A21, H⟩ := H
           have H' := Aside0.mk H
           clear H
           obtain ⟨Ao22, co22, eo22⟩ := Kd.R_slice HO_7.out
           subst eo22
           have p194 : 0 ≤ (x9_2 : Int) := of_decide_eq_true asmB
           have q194 : x9_2 < (x7_2.length : Int) := of_decide_eq_true asmB
           obtain ⟨ad194, e194, hx194_0, hx194_1, hx194_2, hx194_3, hx194_4, hx194_5⟩ := at_T26 (Kd.R_reads' HO_7.out).2.2 x9_2 p194 q194
           cases e194
           replace p194 := eq_true p194
           replace q194 := eq_true q194
           go_wp2_with (first | ((with_reducible refine gC 70 ?_); refine lA (some 32) Tryd.func70 (spec_l22Holds.calls ((rd_T26 x7_2 x9_2).f0) ((rd_T26 x7_2 x9_2).f1) ((rd_T26 x7_2 x9_2).f2) ((rd_T26 x7_2 x9_2).f3) ((rd_T26 x7_2 x9_2).f4) ((rd_T26 x7_2 x9_2).f5) true _ A18.out) ?_; intro w23 hb; replace HO_7 := uR HO_7 hb; replace HB := uB HB hb; (try clear hb); (try clear hk); have p196 : 0 ≤ (x9_2 : Int) := of_decide_eq_true asmB; have q196 : x9_2 < (x7_2.length : Int) := of_decide_eq_true asmB; obtain ⟨ad196, e196, hx196_0, hx196_1, hx196_2, hx196_3, hx196_4, hx196_5⟩ := at_T26 (Kd.R_reads' HO_7.out).2.2 x9_2 p196 q196; obtain rfl : ad194 = ad196 := (by injection e196); replace p196 := eq_true p196; replace q196 := eq_true q196) | ((with_reducible refine gate_callee (f := 71) rfl ?_); refine goesL_ (some 44) rfl rfl Tryd.func71 (by kernel_rfl) rfl #[.slice (some ad194) x7_2.length co22, .int .i64 x9_2, .int .i64 4] rfl argsB ?_; (with_reducible refine (spec_l22With.calls _ _ x7_2 x9_2 4 t197 _ ?side1 ?side2 A21.out).mono ?_); (case side1 => repeat (first | exact (Kd.R_reads' HO_7.out).2.2 | (with_reducible refine Kd.C_alloc ?_ _) | (with_reducible refine Kd.C_drewN ?_ _) | (with_reducible refine Kd.C_drew ?_))); (case side2 => exact (Kd.R_reads' HO_7.out).2.1); rintro e w24 ⟨v198, rfl, ho0, hb⟩; refine ⟨_, rfl, ?_⟩; have HO199 := Aside0.mk (Kd.R_lower (Kd.R_new' ho0 (Kd.R_lt (upR HO_7.out))) (below_size (bW HB))); replace HO_7 := Aside0.mk (Kd.R_elder' (upR HO_7.out) (Kd.R_base ho0) hb); replace HB := uB HB hb; (try clear hb); (try clear hk); (try clear ho0)))
           go_roundg k2
           case measure => have := HJ2.out; have := HK2.out; omega
           case rel => exact ⟨(t197), (wrap64 (x8_2 + 1)), (wrap64 (x9_2 + 1)), rB, rB, H', ⟨by have := HJ2.out; have := HK2.out; omega⟩, ⟨by (with_reducible repeat (first | apply Kd.R_alloc | apply Kd.R_drewN | apply Kd.R_drew)); exact Kd.R_mono HO199.out (fun _ hk => trivial)⟩, (aB HB)⟩
          ·have H' := Aside0.mk H
           clear H
           obtain ⟨Ao25, co25, eo25⟩ := Kd.R_slice HO_7.out
           subst eo25
           have p194 : 0 ≤ (x9_2 : Int) := of_decide_eq_true asmB
           have q194 : x9_2 < (x7_2.length : Int) := of_decide_eq_true asmB
           obtain ⟨ad194, e194, hx194_0, hx194_1, hx194_2, hx194_3, hx194_4, hx194_5⟩ := at_T26 (Kd.R_reads' HO_7.out).2.2 x9_2 p194 q194
           cases e194
           replace p194 := eq_true p194
           replace q194 := eq_true q194
           go_wp2_with (first | ((with_reducible refine gC 70 ?_); refine lA (some 32) Tryd.func70 (spec_l22Holds.calls ((rd_T26 x7_2 x9_2).f0) ((rd_T26 x7_2 x9_2).f1) ((rd_T26 x7_2 x9_2).f2) ((rd_T26 x7_2 x9_2).f3) ((rd_T26 x7_2 x9_2).f4) ((rd_T26 x7_2 x9_2).f5) true _ A18.out) ?_; intro w26 hb; replace HO_7 := uR HO_7 hb; replace HB := uB HB hb; (try clear hb); (try clear hk); have p196 : 0 ≤ (x9_2 : Int) := of_decide_eq_true asmB; have q196 : x9_2 < (x7_2.length : Int) := of_decide_eq_true asmB; obtain ⟨ad196, e196, hx196_0, hx196_1, hx196_2, hx196_3, hx196_4, hx196_5⟩ := at_T26 (Kd.R_reads' HO_7.out).2.2 x9_2 p196 q196; obtain rfl : ad194 = ad196 := (by injection e196); replace p196 := eq_true p196; replace q196 := eq_true q196))
           go_roundg k2
           case measure => have := HJ2.out; have := HK2.out; omega
           case rel => exact ⟨(x7_2), (x8_2), (wrap64 (x9_2 + 1)), rB, rB, H', ⟨by have := HJ2.out; have := HK2.out; omega⟩, ⟨upR HO_7.out⟩, (aB HB)⟩
         ·replace H := iF (by decide) H
          have H' := Aside0.mk H
          clear H
          obtain ⟨Ao27, co27, eo27⟩ := Kd.R_slice HO_7.out
          subst eo27
          have p194 : 0 ≤ (x9_2 : Int) := of_decide_eq_true asmB
          have q194 : x9_2 < (x7_2.length : Int) := of_decide_eq_true asmB
          obtain ⟨ad194, e194, hx194_0, hx194_1, hx194_2, hx194_3, hx194_4, hx194_5⟩ := at_T26 (Kd.R_reads' HO_7.out).2.2 x9_2 p194 q194
          cases e194
          replace p194 := eq_true p194
          replace q194 := eq_true q194
          go_wp2_with (first | ((with_reducible refine gC 70 ?_); refine lA (some 32) Tryd.func70 (spec_l22Holds.calls ((rd_T26 x7_2 x9_2).f0) ((rd_T26 x7_2 x9_2).f1) ((rd_T26 x7_2 x9_2).f2) ((rd_T26 x7_2 x9_2).f3) ((rd_T26 x7_2 x9_2).f4) ((rd_T26 x7_2 x9_2).f5) false _ A18.out) ?_; intro w28 hb; replace HO_7 := uR HO_7 hb; replace HB := uB HB hb; (try clear hb); (try clear hk)))
          go_roundg k2
          case measure => have := HJ2.out; have := HK2.out; omega
          case rel => exact ⟨(x7_2), (x8_2), (wrap64 (x9_2 + 1)), rB, rB, H', ⟨by have := HJ2.out; have := HK2.out; omega⟩, ⟨upR HO_7.out⟩, (aB HB)⟩
        ·rw [if_neg c17] at H
         exact absurd H (by simp)
       ·simp only [Option.some.injEq, Prod.mk.injEq] at H
        obtain ⟨rfl, rfl, rfl⟩ := H
        obtain ⟨Ao29, co29, eo29⟩ := Kd.R_slice HO_7.out
        subst eo29
        go_wp2
        go_ret3
        exact ⟨_, eB, upR HO_7.out, (bW HB)⟩
    ·rw [if_neg c12] at H
     exact absurd H (by simp)

/-! ### impl_Permit_68: function 68 -/
def impl_Permit_68.f (l0 : List (S26)) : Option (List (S26)) := if l0.length * 56 ≤ 140737488351232 then some l0 else none
theorem infoC26 : (Tryd.prog.info? 26).map (fun i => (i.zero, i.size, i.bytes)) = some (some (.agg #[(.int .i64 0), (.string ByteArray.empty), (.int .i64 0), (.int .i64 0), (.int .i64 0), (.int .i64 0)]), 6, 56) := by kernel_rfl
set_option maxHeartbeats 4000000 in
set_option maxRecDepth 100000 in
theorem impl_Permit_68.calls (A0 : Option Addr) (c0 : Nat) (l0 : List (S26)) (r : List (S26)) (w : World) (hr0 : Kd.C k26 w A0 l0.length l0) (hc0 : l0.length ≤ c0) (h : impl_Permit_68.f l0 = some r) :
  Calls Tryd.prog 68 #[.slice A0 l0.length c0] w fun e w' => ∃ v0_ : Value, e = .returned (v0_) ∧ Kd.R k26 26 w' w.heap.size (fun _ => True) v0_ r ∧ Below w.heap.size w w' := by
 have q22 : ∀ (w : World) (a : Option Addr) (n c n' c' : Nat), (binOp .eql 32 (.slice a n c) (.slice none n' c')).run Tryd.prog w = .ok (.bool a.isNone) w := fun w a n c n' c' => Go.Lib.run_eql_slice_nil w _ _ a n c n' c' Tryd.underlying32
 unfold impl_Permit_68.f at h
 split at h
 ·rename_i hb
  obtain rfl := Option.some.inj h
  cases A0 with
  | none =>
   have h0 : l0 = [] := by
    rcases Nat.eq_zero_or_pos l0.length with h0 | h0
    ·exact List.eq_nil_of_length_eq_zero h0
    ·obtain ⟨ad, he, _⟩ := hr0.2.2 h0
     cases he
   subst h0
   go_enter Tryd.func68, Tryd.ntmps68
   go_wp2
   go_ret
   exact ⟨_, rfl, Kd.R_nil _ _ _ _ _, Below.refl _ _⟩
  | some ad =>
   have HR := Aside0.mk hr0
   clear hr0
   go_enter Tryd.func68, Tryd.ntmps68
   go_wp2_with (first | ((with_reducible refine gate_dst (N := 5) rfl ?_); refine Kd.R_lit k26 _ 26 ?hg (N := 5) ?hd (xs := ([] : List (S26))) (inner := []) (ok := fun _ => True) (okp := fun _ => True) ?hr ?hp (fun _ hk => hk) trivial (Below.refl _ _) (Nat.le_refl _) (by simp) ?_; (case hd => rfl); (case hg => rfl); (case hr => first | (go_simp; done) | (go_simp; rfl)); (case hp => exact (Reps.none _ _)); intro v1 w1 ho hb1 _ _; have HO := Aside0.mk ho; have HB := Aside0.mk hb1; clear ho hb1) | ((with_reducible refine gate_builtin (b := .append) (xs := #[.tmp 5, .tmp 6]) rfl ?_); at_builtin; refine Kd.R_append_rows k26 (w0 := w) w.heap.size rfl (.tmp 5) (.tmp 6) 32 26 (.agg #[(.int .i64 0), (.string ByteArray.empty), (.int .i64 0), (.int .i64 0), (.int .i64 0), (.int .i64 0)]) 56 rfl Tryd.underlying32 infoC26 rfl (by decide) (by omega) _ ([] : List (S26)) l0 _ _ _ (fun _ => True) (fun _ => False) rfl rfl ?aO ?aR (fun _ _ h => h) (fun _ h => h.elim) ?aF ?aB ?aS ?aL ?_; (case aO => exact HO.out); (case aR => exact Kd.C_below HR.out HB.out); (case aF => exact fun _ _ => trivial); (case aB => exact HB.out); (case aS => exact below_size HB.out); (case aL => simp only [List.length_nil]; omega); intro v2 w2 ho2 hb2 _ _; have HO2 := Aside0.mk ho2; have HB2 := Aside0.mk hb2; clear ho2 hb2))
   go_ret
   refine ⟨_, rfl, ?_, HB2.out⟩
   have := HO2.out
   rwa [List.nil_append] at this
 ·cases h


end Go.Proofs.YtgeioccfjgpijaaDoor.QFnPermits
