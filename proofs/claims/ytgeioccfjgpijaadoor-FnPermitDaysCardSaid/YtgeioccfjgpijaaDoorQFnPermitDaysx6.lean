/- Contracts of Go functions that FnPermitDays reaches: the call computes what the plain function says. No condition. -/
import Derived.Test.YtgeioccfjgpijaaDoorQFnPermitDaysx0
import Derived.Test.YtgeioccfjgpijaaDoorQFnPermitDaysx2
import Derived.Test.YtgeioccfjgpijaaDoorQFnPermitDaysx3
import Derived.Test.YtgeioccfjgpijaaDoorQFnPermitDaysx4
import Derived.Test.YtgeioccfjgpijaaDoorQFnPermitDaysx5
namespace Go.Proofs.YtgeioccfjgpijaaDoor.QFnPermitDays
open Go.RowKit Go.Proofs.YtgeioccfjgpijaaDoorW.PrintWords Go.Proofs.YtgeioccfjgpijaaDoorW.PrintLast Go.Proofs.YtgeioccfjgpijaaDoorW.PrintMore
attribute [local go_sem] max2_int min2_int max_two min_two max_three min_three max_four min_four   -- for this text's walks alone
set_option linter.unusedVariables false
set_option linter.unusedSimpArgs false

/-! ### spec_l22On: function 64 -/
def spec_l22On.l0 : Nat → List (S26) → ByteArray → Int → Int → Option (Int)
 | 0, _, _, _, _ => none
 | k + 1, x0, x1, x2, x7 => if x7 < (x0.length : Int) then (if 0 ≤ x7 then ((spec_l22Holds.f ((rd_T26 x0 x7).f0) ((rd_T26 x0 x7).f1) ((rd_T26 x0 x7).f2) ((rd_T26 x0 x7).f3) ((rd_T26 x0 x7).f4) ((rd_T26 x0 x7).f5)).bind fun t168 => (if t168 = true then (if ((rd_T26 x0 x7).f1).toList = x1.toList then ((spec_l1In.f x2 ((rd_T26 x0 x7).f2) ((rd_T26 x0 x7).f3)).bind fun t169 => (if t169 = true then (some x7) else (spec_l22On.l0 k x0 x1 x2 (wrap64 (x7 + 1))))) else (spec_l22On.l0 k x0 x1 x2 (wrap64 (x7 + 1)))) else (spec_l22On.l0 k x0 x1 x2 (wrap64 (x7 + 1))))) else (none)) else (some (-1))
def spec_l22On.f (k : Nat) (l0 : List (S26)) (a1 : ByteArray) (a2 : Int) : Option (Int) := spec_l22On.l0 k l0 a1 a2 0
theorem spec_l22On.mono_l : ∀ k, (∀ y0 y1 y2 y3, LeO (spec_l22On.l0 k y0 y1 y2 y3) (spec_l22On.l0 (k + 1) y0 y1 y2 y3))
 | 0 => fun _ _ _ _ r h => by simp [spec_l22On.l0] at h
 | k + 1 => by
  have ih0 := spec_l22On.mono_l k
  ·intro y0 y1 y2 y3
   unfold spec_l22On.l0
   repeat' with_reducible first | apply ih0 | exact LeO.refl _ | exact LeO.none _ | refine LeO.ite ?_ ?_ | refine LeO.bind ?_ (fun _ => ?_)
theorem spec_l22On.mono : ∀ a0 a1 a2 k, LeO (spec_l22On.f k a0 a1 a2) (spec_l22On.f (k + 1) a0 a1 a2) := by
 intro a0 a1 a2 k
 have ih0 := spec_l22On.mono_l k
 unfold spec_l22On.f
 repeat' with_reducible first | apply ih0 | exact LeO.refl _ | exact LeO.none _ | refine LeO.ite ?_ ?_ | refine LeO.bind ?_ (fun _ => ?_)
set_option maxHeartbeats 8000000 in
set_option maxRecDepth 100000 in
theorem spec_l22On.calls (k : Nat) (A0 : Option Addr) (c0 : Nat) (l0 : List (S26)) (a1 : ByteArray) (a2 r : Int) (w : World) (hr0 : Kd.C k26 w A0 l0.length l0) (hc0 : l0.length ≤ c0) (h : spec_l22On.f k l0 a1 a2 = some r) :
  Calls Tryd.prog 64 #[.slice A0 l0.length c0, .string a1, .int .i64 a2] w fun e w' => e = .returned (.int .i64 r) ∧ Below w.heap.size w w' := by
 have hu26 := Tryd.underlying26
 have HR0 := Aside0.mk hr0
 have HC0 := Aside0.mk hc0
 clear hr0 hc0
 have HB := Aside0.mk (Below.refl w.heap.size w)
 have H : (spec_l22On.l0 k l0 a1 a2 0) = some r := h
 clear h
 have H' := Aside0.mk H
 clear H
 go_enter Tryd.func64, Tryd.ntmps64
 go_wp2
 go_loopg [7] k (fun kq v7 w' => ∃ (x7_1 : Int), v7 = .int .i64 x7_1 ∧ Aside0 (spec_l22On.l0 kq l0 a1 a2 x7_1 = some r) ∧ Aside0 (kq ≤ k) ∧ Aside0 (Below w.heap.size w w'))
 case atStart => exact ⟨(0), rB, H', ⟨Nat.le_refl _⟩, (aB HB)⟩
 case round =>
  clear H'
  obtain ⟨x7_1, rfl, HA, HK1, HB⟩ := hrel
  cases gk with
  | zero => exact absurd HA.out (by simp [spec_l22On.l0])
  | succ k1 =>
   have H := HA.out
   clear HA
   simp only [spec_l22On.l0] at H
   replace H := ifD H
   rcases H with ⟨H, -, c4b0⟩ | ⟨H, -, c4b0⟩
   ·by_cases c5 : 0 ≤ x7_1
    ·rw [if_pos c5] at H
     have c5b0 : decide (0 ≤ x7_1) = true := decide_eq_true c5
     clear c5
     replace H := bA H
     obtain ⟨t168, A6, H⟩ := H
     rcases Bool.eq_false_or_eq_true t168 with rfl | rfl
     ·replace H := iT rfl H
      replace H := ifI H
      rcases H with ⟨H, -, c8b0, c8b1⟩ | ⟨H, c8, c8b0, c8b1⟩
      ·replace H := bA H
       obtain ⟨t169, A9, H⟩ := H
       rcases Bool.eq_false_or_eq_true t169 with rfl | rfl
       ·replace H := iT rfl H
        obtain rfl := Option.some.inj H
        have p166 : 0 ≤ (x7_1 : Int) := of_decide_eq_true asmB
        have q166 : x7_1 < (l0.length : Int) := of_decide_eq_true asmB
        obtain ⟨ad166, e166, hx166_0, hx166_1, hx166_2, hx166_3, hx166_4, hx166_5⟩ := at_T26 HR0.out x7_1 p166 q166
        cases e166
        replace hx166_0 := bx HB.out hx166_0
        replace hx166_1 := bx HB.out hx166_1
        replace hx166_2 := bx HB.out hx166_2
        replace hx166_3 := bx HB.out hx166_3
        replace hx166_4 := bx HB.out hx166_4
        replace hx166_5 := bx HB.out hx166_5
        replace p166 := eq_true p166
        replace q166 := eq_true q166
        go_wp2_with (first | ((with_reducible refine gD 8 ?_); refine bxE 8 26 #[.int .i64 0, .string (⟨#[]⟩ : ByteArray), .int .i64 0, .int .i64 0, .int .i64 0, .int .i64 0] fun gb167 w11 hg hbox hb => ?_; have BK167 := Aside0.mk hbox; have GE167 := gB HB hg; replace HB := uB HB hb; clear hb hbox hg; have hcz12_0 := ci BK167.out 0 0 rfl; have hcz12_1 : w11.cell? ⟨gb167, 1, none⟩ = some (.string (⟨#[]⟩ : ByteArray)) := cb BK167 1; have hcz12_2 := ci BK167.out 2 0 rfl; have hcz12_3 := ci BK167.out 3 0 rfl; have hcz12_4 := ci BK167.out 4 0 rfl; have hcz12_5 := ci BK167.out 5 0 rfl; have hfz12_0 := fun j_ : Nat => blk_frozen BK167.out j_) | ((with_reducible refine gC 70 ?_); refine lA (some 20) Tryd.func70 (spec_l22Holds.calls ((rd_T26 l0 x7_1).f0) ((rd_T26 l0 x7_1).f1) ((rd_T26 l0 x7_1).f2) ((rd_T26 l0 x7_1).f3) ((rd_T26 l0 x7_1).f4) ((rd_T26 l0 x7_1).f5) true _ A6.out) ?_; intro w13 hb; replace BK167 := uQ BK167 hb #[.int .i64 ((rd_T26 l0 x7_1).f0), .string ((rd_T26 l0 x7_1).f1), .int .i64 ((rd_T26 l0 x7_1).f2), .int .i64 ((rd_T26 l0 x7_1).f3), .int .i64 ((rd_T26 l0 x7_1).f4), .int .i64 ((rd_T26 l0 x7_1).f5)]; replace HB := uB HB hb; (try clear hb); have hcz14_0 := ci BK167.out 0 ((rd_T26 l0 x7_1).f0) rfl; have hcz14_1 : w13.cell? ⟨gb167, 1, none⟩ = some (.string ((rd_T26 l0 x7_1).f1)) := cb BK167 1; have hcz14_2 := ci BK167.out 2 ((rd_T26 l0 x7_1).f2) rfl; have hcz14_3 := ci BK167.out 3 ((rd_T26 l0 x7_1).f3) rfl; have hcz14_4 := ci BK167.out 4 ((rd_T26 l0 x7_1).f4) rfl; have hcz14_5 := ci BK167.out 5 ((rd_T26 l0 x7_1).f5) rfl; have hfz14_0 := fun j_ : Nat => blk_frozen BK167.out j_) | (go_at_call 67; (with_reducible refine (spec_l1In.calls a2 ((rd_T26 l0 x7_1).f2) ((rd_T26 l0 x7_1).f3) true _ A9.out).mono ?_); rintro e w' ⟨rfl, ⟨nd, rfl⟩⟩))
        go_ret
        exact ⟨eB, (bW HB)⟩
       ·replace H := iF (by decide) H
        have H' := Aside0.mk H
        clear H
        have p166 : 0 ≤ (x7_1 : Int) := of_decide_eq_true asmB
        have q166 : x7_1 < (l0.length : Int) := of_decide_eq_true asmB
        obtain ⟨ad166, e166, hx166_0, hx166_1, hx166_2, hx166_3, hx166_4, hx166_5⟩ := at_T26 HR0.out x7_1 p166 q166
        cases e166
        replace hx166_0 := bx HB.out hx166_0
        replace hx166_1 := bx HB.out hx166_1
        replace hx166_2 := bx HB.out hx166_2
        replace hx166_3 := bx HB.out hx166_3
        replace hx166_4 := bx HB.out hx166_4
        replace hx166_5 := bx HB.out hx166_5
        replace p166 := eq_true p166
        replace q166 := eq_true q166
        go_wp2_with (first | ((with_reducible refine gD 8 ?_); refine bxE 8 26 #[.int .i64 0, .string (⟨#[]⟩ : ByteArray), .int .i64 0, .int .i64 0, .int .i64 0, .int .i64 0] fun gb167 w15 hg hbox hb => ?_; have BK167 := Aside0.mk hbox; have GE167 := gB HB hg; replace HB := uB HB hb; clear hb hbox hg; have hcz16_0 := ci BK167.out 0 0 rfl; have hcz16_1 : w15.cell? ⟨gb167, 1, none⟩ = some (.string (⟨#[]⟩ : ByteArray)) := cb BK167 1; have hcz16_2 := ci BK167.out 2 0 rfl; have hcz16_3 := ci BK167.out 3 0 rfl; have hcz16_4 := ci BK167.out 4 0 rfl; have hcz16_5 := ci BK167.out 5 0 rfl; have hfz16_0 := fun j_ : Nat => blk_frozen BK167.out j_) | ((with_reducible refine gC 70 ?_); refine lA (some 20) Tryd.func70 (spec_l22Holds.calls ((rd_T26 l0 x7_1).f0) ((rd_T26 l0 x7_1).f1) ((rd_T26 l0 x7_1).f2) ((rd_T26 l0 x7_1).f3) ((rd_T26 l0 x7_1).f4) ((rd_T26 l0 x7_1).f5) true _ A6.out) ?_; intro w17 hb; replace BK167 := uQ BK167 hb #[.int .i64 ((rd_T26 l0 x7_1).f0), .string ((rd_T26 l0 x7_1).f1), .int .i64 ((rd_T26 l0 x7_1).f2), .int .i64 ((rd_T26 l0 x7_1).f3), .int .i64 ((rd_T26 l0 x7_1).f4), .int .i64 ((rd_T26 l0 x7_1).f5)]; replace HB := uB HB hb; (try clear hb); have hcz18_0 := ci BK167.out 0 ((rd_T26 l0 x7_1).f0) rfl; have hcz18_1 : w17.cell? ⟨gb167, 1, none⟩ = some (.string ((rd_T26 l0 x7_1).f1)) := cb BK167 1; have hcz18_2 := ci BK167.out 2 ((rd_T26 l0 x7_1).f2) rfl; have hcz18_3 := ci BK167.out 3 ((rd_T26 l0 x7_1).f3) rfl; have hcz18_4 := ci BK167.out 4 ((rd_T26 l0 x7_1).f4) rfl; have hcz18_5 := ci BK167.out 5 ((rd_T26 l0 x7_1).f5) rfl; have hfz18_0 := fun j_ : Nat => blk_frozen BK167.out j_) | (go_at_call 67; (with_reducible refine (spec_l1In.calls a2 ((rd_T26 l0 x7_1).f2) ((rd_T26 l0 x7_1).f3) false _ A9.out).mono ?_); rintro e w' ⟨rfl, ⟨nd, rfl⟩⟩))
        go_roundg k1
        case measure => have := HK1.out; omega
        case rel => exact ⟨(wrap64 (x7_1 + 1)), rB, H', ⟨by have := HK1.out; omega⟩, (aB HB)⟩
      ·have H' := Aside0.mk H
       clear H
       have p166 : 0 ≤ (x7_1 : Int) := of_decide_eq_true asmB
       have q166 : x7_1 < (l0.length : Int) := of_decide_eq_true asmB
       obtain ⟨ad166, e166, hx166_0, hx166_1, hx166_2, hx166_3, hx166_4, hx166_5⟩ := at_T26 HR0.out x7_1 p166 q166
       cases e166
       replace hx166_0 := bx HB.out hx166_0
       replace hx166_1 := bx HB.out hx166_1
       replace hx166_2 := bx HB.out hx166_2
       replace hx166_3 := bx HB.out hx166_3
       replace hx166_4 := bx HB.out hx166_4
       replace hx166_5 := bx HB.out hx166_5
       replace p166 := eq_true p166
       replace q166 := eq_true q166
       go_wp2_with (first | ((with_reducible refine gD 8 ?_); refine bxE 8 26 #[.int .i64 0, .string (⟨#[]⟩ : ByteArray), .int .i64 0, .int .i64 0, .int .i64 0, .int .i64 0] fun gb167 w19 hg hbox hb => ?_; have BK167 := Aside0.mk hbox; have GE167 := gB HB hg; replace HB := uB HB hb; clear hb hbox hg; have hcz20_0 := ci BK167.out 0 0 rfl; have hcz20_1 : w19.cell? ⟨gb167, 1, none⟩ = some (.string (⟨#[]⟩ : ByteArray)) := cb BK167 1; have hcz20_2 := ci BK167.out 2 0 rfl; have hcz20_3 := ci BK167.out 3 0 rfl; have hcz20_4 := ci BK167.out 4 0 rfl; have hcz20_5 := ci BK167.out 5 0 rfl; have hfz20_0 := fun j_ : Nat => blk_frozen BK167.out j_) | ((with_reducible refine gC 70 ?_); refine lA (some 20) Tryd.func70 (spec_l22Holds.calls ((rd_T26 l0 x7_1).f0) ((rd_T26 l0 x7_1).f1) ((rd_T26 l0 x7_1).f2) ((rd_T26 l0 x7_1).f3) ((rd_T26 l0 x7_1).f4) ((rd_T26 l0 x7_1).f5) true _ A6.out) ?_; intro w21 hb; replace BK167 := uQ BK167 hb #[.int .i64 ((rd_T26 l0 x7_1).f0), .string ((rd_T26 l0 x7_1).f1), .int .i64 ((rd_T26 l0 x7_1).f2), .int .i64 ((rd_T26 l0 x7_1).f3), .int .i64 ((rd_T26 l0 x7_1).f4), .int .i64 ((rd_T26 l0 x7_1).f5)]; replace HB := uB HB hb; (try clear hb); have hcz22_0 := ci BK167.out 0 ((rd_T26 l0 x7_1).f0) rfl; have hcz22_1 : w21.cell? ⟨gb167, 1, none⟩ = some (.string ((rd_T26 l0 x7_1).f1)) := cb BK167 1; have hcz22_2 := ci BK167.out 2 ((rd_T26 l0 x7_1).f2) rfl; have hcz22_3 := ci BK167.out 3 ((rd_T26 l0 x7_1).f3) rfl; have hcz22_4 := ci BK167.out 4 ((rd_T26 l0 x7_1).f4) rfl; have hcz22_5 := ci BK167.out 5 ((rd_T26 l0 x7_1).f5) rfl; have hfz22_0 := fun j_ : Nat => blk_frozen BK167.out j_))
       go_roundg k1
       case measure => have := HK1.out; omega
       case rel => exact ⟨(wrap64 (x7_1 + 1)), rB, H', ⟨by have := HK1.out; omega⟩, (aB HB)⟩
     ·replace H := iF (by decide) H
      have H' := Aside0.mk H
      clear H
      have p166 : 0 ≤ (x7_1 : Int) := of_decide_eq_true asmB
      have q166 : x7_1 < (l0.length : Int) := of_decide_eq_true asmB
      obtain ⟨ad166, e166, hx166_0, hx166_1, hx166_2, hx166_3, hx166_4, hx166_5⟩ := at_T26 HR0.out x7_1 p166 q166
      cases e166
      replace hx166_0 := bx HB.out hx166_0
      replace hx166_1 := bx HB.out hx166_1
      replace hx166_2 := bx HB.out hx166_2
      replace hx166_3 := bx HB.out hx166_3
      replace hx166_4 := bx HB.out hx166_4
      replace hx166_5 := bx HB.out hx166_5
      replace p166 := eq_true p166
      replace q166 := eq_true q166
      go_wp2_with (first | ((with_reducible refine gD 8 ?_); refine bxE 8 26 #[.int .i64 0, .string (⟨#[]⟩ : ByteArray), .int .i64 0, .int .i64 0, .int .i64 0, .int .i64 0] fun gb167 w23 hg hbox hb => ?_; have BK167 := Aside0.mk hbox; have GE167 := gB HB hg; replace HB := uB HB hb; clear hb hbox hg; have hcz24_0 := ci BK167.out 0 0 rfl; have hcz24_1 : w23.cell? ⟨gb167, 1, none⟩ = some (.string (⟨#[]⟩ : ByteArray)) := cb BK167 1; have hcz24_2 := ci BK167.out 2 0 rfl; have hcz24_3 := ci BK167.out 3 0 rfl; have hcz24_4 := ci BK167.out 4 0 rfl; have hcz24_5 := ci BK167.out 5 0 rfl; have hfz24_0 := fun j_ : Nat => blk_frozen BK167.out j_) | ((with_reducible refine gC 70 ?_); refine lA (some 20) Tryd.func70 (spec_l22Holds.calls ((rd_T26 l0 x7_1).f0) ((rd_T26 l0 x7_1).f1) ((rd_T26 l0 x7_1).f2) ((rd_T26 l0 x7_1).f3) ((rd_T26 l0 x7_1).f4) ((rd_T26 l0 x7_1).f5) false _ A6.out) ?_; intro w25 hb; replace BK167 := uQ BK167 hb #[.int .i64 ((rd_T26 l0 x7_1).f0), .string ((rd_T26 l0 x7_1).f1), .int .i64 ((rd_T26 l0 x7_1).f2), .int .i64 ((rd_T26 l0 x7_1).f3), .int .i64 ((rd_T26 l0 x7_1).f4), .int .i64 ((rd_T26 l0 x7_1).f5)]; replace HB := uB HB hb; (try clear hb)))
      go_roundg k1
      case measure => have := HK1.out; omega
      case rel => exact ⟨(wrap64 (x7_1 + 1)), rB, H', ⟨by have := HK1.out; omega⟩, (aB HB)⟩
    ·rw [if_neg c5] at H
     exact absurd H (by simp)
   ·obtain rfl := Option.some.inj H
    go_wp2
    go_ret
    exact ⟨eB, (bW HB)⟩

/-! ### spec_FirstSlot: function 25 -/
mutual
def spec_FirstSlot.j0 : Nat → List (S26) → ByteArray → Int → Int → Bool → Option (Int × Bool)
 | 0, _, _, _, _, _ => none
 | k + 1, x0, x1, x2, x3, x29 => if x29 = true then (some (0, false)) else (spec_FirstSlot.l0 k x0 x1 x3 0 x2)
def spec_FirstSlot.l0 : Nat → List (S26) → ByteArray → Int → Int → Int → Option (Int × Bool)
 | 0, _, _, _, _, _ => none
 | k + 1, x0, x1, x3, x10, x11 => if x11 ≤ 999 then ((spec_l22On.f k x0 x1 x11).bind fun t174 => (if t174 ≥ 0 then (if 0 = x3 then (some (wrap64 ((wrap64 (x11 - x3)) + 1), true)) else (spec_FirstSlot.l0 k x0 x1 x3 0 (wrap64 (x11 + 1)))) else (if (wrap64 (x10 + 1)) = x3 then (some (wrap64 ((wrap64 (x11 - x3)) + 1), true)) else (spec_FirstSlot.l0 k x0 x1 x3 (wrap64 (x10 + 1)) (wrap64 (x11 + 1)))))) else (some (0, false))
end
def spec_FirstSlot.f (k : Nat) (l0 : List (S26)) (a1 : ByteArray) (a2 a3 : Int) : Option (Int × Bool) := (spec_l22Good.f k l0).bind fun t170 => (if t170 = true then ((spec_l2Word.f k a1).bind fun t171 => (if t171 = true then ((spec_l22Day.f a2).bind fun t172 => (if t172 = true then ((spec_l1In.f a3 1 100).bind fun t173 => (spec_FirstSlot.j0 k l0 a1 a2 a3 (!t173))) else (spec_FirstSlot.j0 k l0 a1 a2 a3 true))) else (spec_FirstSlot.j0 k l0 a1 a2 a3 true))) else (spec_FirstSlot.j0 k l0 a1 a2 a3 true))
theorem spec_FirstSlot.mono_l : ∀ k, (∀ y0 y1 y2 y3 y4, LeO (spec_FirstSlot.j0 k y0 y1 y2 y3 y4) (spec_FirstSlot.j0 (k + 1) y0 y1 y2 y3 y4)) ∧ (∀ y0 y1 y2 y3 y4, LeO (spec_FirstSlot.l0 k y0 y1 y2 y3 y4) (spec_FirstSlot.l0 (k + 1) y0 y1 y2 y3 y4))
 | 0 => ⟨fun _ _ _ _ _ r h => by simp [spec_FirstSlot.j0] at h, fun _ _ _ _ _ r h => by simp [spec_FirstSlot.l0] at h⟩
 | k + 1 => by
  obtain ⟨ih0, ih1⟩ := spec_FirstSlot.mono_l k
  refine ⟨?_, ?_⟩
  ·intro y0 y1 y2 y3 y4
   unfold spec_FirstSlot.j0
   repeat' with_reducible first | apply ih0 | apply ih1 | apply spec_l22Good.mono | apply spec_l22On.mono | apply spec_l2Word.mono | exact LeO.refl _ | exact LeO.none _ | refine LeO.ite ?_ ?_ | refine LeO.bind ?_ (fun _ => ?_)
  ·intro y0 y1 y2 y3 y4
   unfold spec_FirstSlot.l0
   repeat' with_reducible first | apply ih0 | apply ih1 | apply spec_l22Good.mono | apply spec_l22On.mono | apply spec_l2Word.mono | exact LeO.refl _ | exact LeO.none _ | refine LeO.ite ?_ ?_ | refine LeO.bind ?_ (fun _ => ?_)
theorem spec_FirstSlot.mono : ∀ a0 a1 a2 a3 k, LeO (spec_FirstSlot.f k a0 a1 a2 a3) (spec_FirstSlot.f (k + 1) a0 a1 a2 a3) := by
 intro a0 a1 a2 a3 k
 obtain ⟨ih0, ih1⟩ := spec_FirstSlot.mono_l k
 unfold spec_FirstSlot.f
 repeat' with_reducible first | apply ih0 | apply ih1 | apply spec_l22Good.mono | apply spec_l22On.mono | apply spec_l2Word.mono | exact LeO.refl _ | exact LeO.none _ | refine LeO.ite ?_ ?_ | refine LeO.bind ?_ (fun _ => ?_)
set_option maxHeartbeats 8000000 in
set_option maxRecDepth 100000 in
theorem spec_FirstSlot.calls (k : Nat) (A0 : Option Addr) (c0 : Nat) (l0 : List (S26)) (a1 : ByteArray) (a2 a3 r1 : Int) (r2 : Bool) (w : World) (hr0 : Kd.C k26 w A0 l0.length l0) (hc0 : l0.length ≤ c0) (h : spec_FirstSlot.f k l0 a1 a2 a3 = some (r1, r2)) :
  Calls Tryd.prog 25 #[.slice A0 l0.length c0, .string a1, .int .i64 a2, .int .i64 a3] w fun e w' => e = .returned (.tuple #[.int .i64 r1, .bool r2]) ∧ Below w.heap.size w w' := by
 have HR0 := Aside0.mk hr0
 have HC0 := Aside0.mk hc0
 clear hr0 hc0
 have HB := Aside0.mk (Below.refl w.heap.size w)
 have H := h
 clear h
 unfold spec_FirstSlot.f at H
 have HC5 := Aside0.mk H
 clear H
 go_enter Tryd.func25, Tryd.ntmps25
 go_upto_region 1 with (fail)
 go_cut [29] (fun v29 wc => ∃ (kq : Nat) (x29_4 : Bool), v29 = .bool x29_4 ∧ Aside0 (spec_FirstSlot.j0 kq l0 a1 a2 a3 x29_4 = some (r1, r2)) ∧ Aside0 (kq ≤ k) ∧ Aside0 (Below w.heap.size w wc))
 case first =>
  have H := HC5.out
  clear HC5
  replace H := bA H
  obtain ⟨t170, A6, H⟩ := H
  rcases Bool.eq_false_or_eq_true t170 with rfl | rfl
  ·replace H := iT rfl H
   replace H := bA H
   obtain ⟨t171, A8, H⟩ := H
   rcases Bool.eq_false_or_eq_true t171 with rfl | rfl
   ·replace H := iT rfl H
    replace H := bA H
    obtain ⟨t172, A10, H⟩ := H
    rcases Bool.eq_false_or_eq_true t172 with rfl | rfl
    ·replace H := iT rfl H
     replace H := bA H
     obtain ⟨t173, A12, H⟩ := H
     have H' := Aside0.mk H
     clear H
     go_wp2_with (first | ((with_reducible refine gC 58 ?_); refine lA (some 13) Tryd.func58 (spec_l22Good.calls k _ _ l0 true _ ?side1 ?side2 A6.out) ?_; (case side1 => repeat (first | exact (Kd.C_below HR0.out HB.out) | (with_reducible refine Kd.C_alloc ?_ _) | (with_reducible refine Kd.C_drewN ?_ _) | (with_reducible refine Kd.C_drew ?_))); (case side2 => exact HC0.out); intro w13 hb; replace HB := uB HB hb; (try clear hb)) | (go_at_call 66; (with_reducible refine (spec_l2Word.calls k a1 true _ A8.out).mono ?_); rintro e w' ⟨rfl, ⟨nd, rfl⟩⟩) | (go_at_call 63; (with_reducible refine (spec_l22Day.calls a2 true _ A10.out).mono ?_); rintro e w' ⟨rfl, ⟨nd, rfl⟩⟩) | (go_at_call 67; (with_reducible refine (spec_l1In.calls a3 1 100 t173 _ A12.out).mono ?_); rintro e w' ⟨rfl, ⟨nd, rfl⟩⟩))
     go_meet
     case rel => exact ⟨_, (!t173), rB, H', leB, (aB HB)⟩
    ·replace H := iF (by decide) H
     have H' := Aside0.mk H
     clear H
     go_wp2_with (first | ((with_reducible refine gC 58 ?_); refine lA (some 13) Tryd.func58 (spec_l22Good.calls k _ _ l0 true _ ?side1 ?side2 A6.out) ?_; (case side1 => repeat (first | exact (Kd.C_below HR0.out HB.out) | (with_reducible refine Kd.C_alloc ?_ _) | (with_reducible refine Kd.C_drewN ?_ _) | (with_reducible refine Kd.C_drew ?_))); (case side2 => exact HC0.out); intro w14 hb; replace HB := uB HB hb; (try clear hb)) | (go_at_call 66; (with_reducible refine (spec_l2Word.calls k a1 true _ A8.out).mono ?_); rintro e w' ⟨rfl, ⟨nd, rfl⟩⟩) | (go_at_call 63; (with_reducible refine (spec_l22Day.calls a2 false _ A10.out).mono ?_); rintro e w' ⟨rfl, ⟨nd, rfl⟩⟩))
     go_meet
     case rel => exact ⟨_, (true), rB, H', leB, (aB HB)⟩
   ·replace H := iF (by decide) H
    have H' := Aside0.mk H
    clear H
    go_wp2_with (first | ((with_reducible refine gC 58 ?_); refine lA (some 13) Tryd.func58 (spec_l22Good.calls k _ _ l0 true _ ?side1 ?side2 A6.out) ?_; (case side1 => repeat (first | exact (Kd.C_below HR0.out HB.out) | (with_reducible refine Kd.C_alloc ?_ _) | (with_reducible refine Kd.C_drewN ?_ _) | (with_reducible refine Kd.C_drew ?_))); (case side2 => exact HC0.out); intro w15 hb; replace HB := uB HB hb; (try clear hb)) | (go_at_call 66; (with_reducible refine (spec_l2Word.calls k a1 false _ A8.out).mono ?_); rintro e w' ⟨rfl, ⟨nd, rfl⟩⟩))
    go_meet
    case rel => exact ⟨_, (true), rB, H', leB, (aB HB)⟩
  ·replace H := iF (by decide) H
   have H' := Aside0.mk H
   clear H
   go_wp2_with (first | ((with_reducible refine gC 58 ?_); refine lA (some 13) Tryd.func58 (spec_l22Good.calls k _ _ l0 false _ ?side1 ?side2 A6.out) ?_; (case side1 => repeat (first | exact (Kd.C_below HR0.out HB.out) | (with_reducible refine Kd.C_alloc ?_ _) | (with_reducible refine Kd.C_drewN ?_ _) | (with_reducible refine Kd.C_drew ?_))); (case side2 => exact HC0.out); intro w16 hb; replace HB := uB HB hb; (try clear hb)))
   go_meet
   case rel => exact ⟨_, (true), rB, H', leB, (aB HB)⟩
 case rest =>
  clear HC5
  obtain ⟨kq, x29_4, rfl, HA, HJ4, HB⟩ := hcut
  cases kq with
  | zero => exact absurd HA.out (by simp [spec_FirstSlot.j0])
  | succ kj4 =>
   have H := HA.out
   clear HA
   simp only [spec_FirstSlot.j0] at H
   rcases Bool.eq_false_or_eq_true x29_4 with rfl | rfl
   ·replace H := iT rfl H
    simp only [Option.some.injEq, Prod.mk.injEq] at H
    obtain ⟨rfl, rfl⟩ := H
    go_wp2
    go_ret2
    exact ⟨eB, (bW HB)⟩
   ·replace H := iF (by decide) H
    have H' := Aside0.mk H
    clear H
    go_wp2
    go_loopg [10, 11] kj4 (fun kq v10 v11 w' => ∃ (x10_2 x11_2 : Int), v10 = .int .i64 x10_2 ∧ v11 = .int .i64 x11_2 ∧ Aside0 (spec_FirstSlot.l0 kq l0 a1 a3 x10_2 x11_2 = some (r1, r2)) ∧ Aside0 (kq ≤ kj4) ∧ Aside0 (Below w.heap.size w w'))
    case atStart => exact ⟨(0), (a2), rB, rB, H', ⟨Nat.le_refl _⟩, (aB HB)⟩
    case round =>
     clear H'
     obtain ⟨x10_2, x11_2, rfl, rfl, HA, HK2, HB⟩ := hrel
     cases gk with
     | zero => exact absurd HA.out (by simp [spec_FirstSlot.l0])
     | succ k2 =>
      have H := HA.out
      clear HA
      simp only [spec_FirstSlot.l0] at H
      replace H := ifD H
      rcases H with ⟨H, -, c18b0⟩ | ⟨H, -, c18b0⟩
      ·replace H := bA H
       obtain ⟨t174, A19, H⟩ := H
       replace H := ifD H
       rcases H with ⟨H, -, c20b0⟩ | ⟨H, -, c20b0⟩
       ·replace H := ifI H
        rcases H with ⟨H, -, c21b0, c21b1⟩ | ⟨H, c21, c21b0, c21b1⟩
        ·simp only [Option.some.injEq, Prod.mk.injEq] at H
         obtain ⟨rfl, rfl⟩ := H
         go_wp2_with (first | ((with_reducible refine gC 64 ?_); refine lA (some 40) Tryd.func64 (spec_l22On.calls k2 _ _ l0 a1 x11_2 t174 _ ?side1 ?side2 A19.out) ?_; (case side1 => repeat (first | exact (Kd.C_below HR0.out HB.out) | (with_reducible refine Kd.C_alloc ?_ _) | (with_reducible refine Kd.C_drewN ?_ _) | (with_reducible refine Kd.C_drew ?_))); (case side2 => exact HC0.out); intro w22 hb; replace HB := uB HB hb; (try clear hb)))
         go_ret2
         exact ⟨eB, (bW HB)⟩
        ·have H' := Aside0.mk H
         clear H
         go_wp2_with (first | ((with_reducible refine gC 64 ?_); refine lA (some 40) Tryd.func64 (spec_l22On.calls k2 _ _ l0 a1 x11_2 t174 _ ?side1 ?side2 A19.out) ?_; (case side1 => repeat (first | exact (Kd.C_below HR0.out HB.out) | (with_reducible refine Kd.C_alloc ?_ _) | (with_reducible refine Kd.C_drewN ?_ _) | (with_reducible refine Kd.C_drew ?_))); (case side2 => exact HC0.out); intro w23 hb; replace HB := uB HB hb; (try clear hb)))
         go_roundg k2
         case measure => have := HJ4.out; have := HK2.out; omega
         case rel => exact ⟨(0), (wrap64 (x11_2 + 1)), rB, rB, H', ⟨by have := HJ4.out; have := HK2.out; omega⟩, (aB HB)⟩
       ·replace H := ifI H
        rcases H with ⟨H, -, c24b0, c24b1⟩ | ⟨H, c24, c24b0, c24b1⟩
        ·simp only [Option.some.injEq, Prod.mk.injEq] at H
         obtain ⟨rfl, rfl⟩ := H
         go_wp2_with (first | ((with_reducible refine gC 64 ?_); refine lA (some 40) Tryd.func64 (spec_l22On.calls k2 _ _ l0 a1 x11_2 t174 _ ?side1 ?side2 A19.out) ?_; (case side1 => repeat (first | exact (Kd.C_below HR0.out HB.out) | (with_reducible refine Kd.C_alloc ?_ _) | (with_reducible refine Kd.C_drewN ?_ _) | (with_reducible refine Kd.C_drew ?_))); (case side2 => exact HC0.out); intro w25 hb; replace HB := uB HB hb; (try clear hb)))
         go_ret2
         exact ⟨eB, (bW HB)⟩
        ·have H' := Aside0.mk H
         clear H
         go_wp2_with (first | ((with_reducible refine gC 64 ?_); refine lA (some 40) Tryd.func64 (spec_l22On.calls k2 _ _ l0 a1 x11_2 t174 _ ?side1 ?side2 A19.out) ?_; (case side1 => repeat (first | exact (Kd.C_below HR0.out HB.out) | (with_reducible refine Kd.C_alloc ?_ _) | (with_reducible refine Kd.C_drewN ?_ _) | (with_reducible refine Kd.C_drew ?_))); (case side2 => exact HC0.out); intro w26 hb; replace HB := uB HB hb; (try clear hb)))
         go_roundg k2
         case measure => have := HJ4.out; have := HK2.out; omega
         case rel => exact ⟨(wrap64 (x10_2 + 1)), (wrap64 (x11_2 + 1)), rB, rB, H', ⟨by have := HJ4.out; have := HK2.out; omega⟩, (aB HB)⟩
      ·simp only [Option.some.injEq, Prod.mk.injEq] at H
       obtain ⟨rfl, rfl⟩ := H
       go_wp2
       go_ret2
       exact ⟨eB, (bW HB)⟩

/-! ### impl_xFree: function 142 -/
-- reaches: impl.allowed
def impl_xFree.f (l0 : List (S26)) (a1 : ByteArray) (a2 : Int) : Option Bool := some (decide (idxP26 (onDay a1 a2) l0 0 < 0))
theorem bxF {w W : World} {a : Addr} {v : Value} (hb : Aside0 (Below w.heap.size w W)) (h : w.cell? a = some v) : W.cell? a = some v := (hb.out.cell (World.block_lt_of_cell? w _ h)).trans h
theorem idxF_range (p : S26 → Bool) : ∀ (l : List S26) (i : Int), 0 ≤ i → idxP26 p l i = -1 ∨ (i ≤ idxP26 p l i ∧ idxP26 p l i < i + l.length) := by
 intro l
 induction l with
 | nil => intro i _; exact Or.inl rfl
 | cons x l ih =>
  intro i h
  rw [idxP26, List.length_cons]
  by_cases c : p x = true
  ·rw [if_pos c]; right; omega
  ·rw [if_neg c]
   rcases ih (i + 1) (by omega) with e | e
   ·exact Or.inl e
   ·right; omega
theorem allowed_is (l0 : List (S26)) (a1 : ByteArray) (a2 : Int) : ∃ r1 r2 r3 r4 r5 r6, impl_allowed.f l0 a1 a2 = some (r1, r2, r3, r4, r5, r6, !(decide (idxP26 (onDay a1 a2) l0 0 < 0))) := by
 unfold impl_allowed.f impl_xAllowed.f
 have hr := idxF_range (onDay a1 a2) l0 0 (by omega)
 generalize idxP26 (onDay a1 a2) l0 0 = i at hr
 rw [Option.bind_some]
 by_cases c : i < 0
 ·rw [if_pos c, decide_eq_true c]; exact ⟨_, _, _, _, _, _, rfl⟩
 ·rw [if_neg c, if_pos (by omega), if_pos (by omega), decide_eq_false c]; exact ⟨_, _, _, _, _, _, rfl⟩
set_option maxHeartbeats 4000000 in
set_option maxRecDepth 100000 in
theorem impl_xFree.calls (A0 : Option Addr) (c0 : Nat) (l0 : List (S26)) (a1 : ByteArray) (a2 : Int) (r : Bool) (w : World) (hr0 : Kd.C k26 w A0 l0.length l0) (hc0 : l0.length ≤ c0) (h : impl_xFree.f l0 a1 a2 = some r) {b1 b2 : Nat} (hcl1 : w.cell? ⟨b1, 0, none⟩ = some (.slice A0 l0.length c0) := by first | assumption | (apply bxF <;> assumption)) (hcl2 : w.cell? ⟨b2, 0, none⟩ = some (.string a1) := by first | assumption | (apply bxF <;> assumption)) :
  Calls Tryd.prog 77 #[.int .i64 a2, .pointer (some ⟨b1, 0, none⟩), .pointer (some ⟨b2, 0, none⟩)] w fun e w' => e = .returned (.bool r) ∧ Below w.heap.size w w' := by
 obtain rfl := Option.some.inj h
 have hu := Tryd.underlying26
 obtain ⟨r1, r2, r3, r4, r5, r6, ha⟩ := allowed_is l0 a1 a2
 have hcon := impl_allowed.calls A0 c0 l0 a1 a2 r1 r2 r3 r4 r5 r6 _ w hr0 hc0 ha
 generalize decide (idxP26 (onDay a1 a2) l0 0 < 0) = t at hcon ⊢
 clear ha h hr0 hc0
 go_enter Tryd.func77, Tryd.ntmps77
 go_wp2_with (go_at_call 65; refine hcon.mono ?_; rintro e w1 ⟨rfl, hb1⟩)
 go_ret
 exact ⟨by simp, below_alloc hb1 _⟩

/-! ### impl_spans: function 76 -/
def impl_spans.l0 : Nat → Int → List (S26) → ByteArray → List (List Int) → Int → Option ((List (List Int)))
 | 0, _, _, _, _, _ => none
 | k + 1, x1, x2, x3, x7, x8 => if x8 ≤ x1 then ((impl_xFree.f x2 x3 x8).bind fun t175 => (if t175 = true then (if (wrap64 ((x7.length : Int) - 1)) ≥ 0 then (if 0 ≤ (wrap64 ((x7.length : Int) - 1)) then (if (wrap64 ((x7.length : Int) - 1)) < (x7.length : Int) then (if 1 < ((rd_L5 x7 (wrap64 ((x7.length : Int) - 1))).length : Int) then (if (rd (rd_L5 x7 (wrap64 ((x7.length : Int) - 1))) 1) = (wrap64 (x8 - 1)) then (impl_spans.l0 k x1 x2 x3 (x7.set ((wrap64 ((x7.length : Int) - 1)) : Int).toNat ((rd_L5 x7 (wrap64 ((x7.length : Int) - 1))).set (1 : Int).toNat x8)) (wrap64 (x8 + 1))) else (if x7.length < 5864062014805 then (impl_spans.l0 k x1 x2 x3 (x7 ++ [(([x8, x8] : List Int))]) (wrap64 (x8 + 1))) else (none))) else (none)) else (none)) else (none)) else (if x7.length < 5864062014805 then (impl_spans.l0 k x1 x2 x3 (x7 ++ [(([x8, x8] : List Int))]) (wrap64 (x8 + 1))) else (none))) else (impl_spans.l0 k x1 x2 x3 x7 (wrap64 (x8 + 1))))) else (some x7)
def impl_spans.f (k : Nat) (a0 a1 : Int) (l2 : List (S26)) (a3 : ByteArray) : Option ((List (List Int))) := impl_spans.l0 k a1 l2 a3 ([] : List (List Int)) a0
theorem impl_spans.mono_l : ∀ k, (∀ y0 y1 y2 y3 y4, LeO (impl_spans.l0 k y0 y1 y2 y3 y4) (impl_spans.l0 (k + 1) y0 y1 y2 y3 y4))
 | 0 => fun _ _ _ _ _ r h => by simp [impl_spans.l0] at h
 | k + 1 => by
  have ih0 := impl_spans.mono_l k
  ·intro y0 y1 y2 y3 y4
   unfold impl_spans.l0
   repeat' with_reducible first | apply ih0 | exact LeO.refl _ | exact LeO.none _ | refine LeO.ite ?_ ?_ | refine LeO.bind ?_ (fun _ => ?_)
theorem impl_spans.mono : ∀ a0 a1 a2 a3 k, LeO (impl_spans.f k a0 a1 a2 a3) (impl_spans.f (k + 1) a0 a1 a2 a3) := by
 intro a0 a1 a2 a3 k
 have ih0 := impl_spans.mono_l k
 unfold impl_spans.f
 repeat' with_reducible first | apply ih0 | exact LeO.refl _ | exact LeO.none _ | refine LeO.ite ?_ ?_ | refine LeO.bind ?_ (fun _ => ?_)
set_option maxHeartbeats 8000000 in
set_option maxRecDepth 100000 in
theorem impl_spans.calls (k : Nat) (a0 a1 : Int) (A2 : Option Addr) (c2 : Nat) (l2 : List (S26)) (a3 : ByteArray) (r : List (List Int)) (w : World) (hr2 : Kd.C k26 w A2 l2.length l2) (hc2 : l2.length ≤ c2) (h : impl_spans.f k a0 a1 l2 a3 = some r) {b1_ b2_ : Nat} (hcl1 : w.cell? ⟨b1_, 0, none⟩ = some (.slice A2 l2.length c2)) (hcl2 : w.cell? ⟨b2_, 0, none⟩ = some (.string a3)) :
  Calls Tryd.prog 76 #[.int .i64 a0, .int .i64 a1, .func (.func 77) #[] #[.pointer (some ⟨b1_, 0, none⟩), .pointer (some ⟨b2_, 0, none⟩)]] w fun e w' => ∃ v0_ : Value, e = .returned (v0_) ∧ Kd.S (Kd.slice 3 (Kd.int .i64)) 68 w' w.heap.size (fun _ => True) v0_ r ∧ Below w.heap.size w w' := by
 have HR2 := Aside0.mk hr2
 have HC2 := Aside0.mk hc2
 clear hr2 hc2
 have HB := Aside0.mk (Below.refl w.heap.size w)
 have H := h
 clear h
 unfold impl_spans.f at H
 have H' := Aside0.mk H
 clear H
 go_enter Tryd.func76, Tryd.ntmps76
 go_wp2
 go_loopg [7, 8] k (fun kq v7 v8 w' => ∃ (x7_1 : List (List Int)) (x8_1 : Int), v8 = .int .i64 x8_1 ∧ Aside0 (impl_spans.l0 kq a1 l2 a3 x7_1 x8_1 = some r) ∧ Aside0 (kq ≤ k) ∧ Aside0 (Kd.S (Kd.slice 3 (Kd.int .i64)) 68 w' w.heap.size (fun _ => True) v7 x7_1) ∧ Aside0 (Below w.heap.size w w'))
 case atStart => exact ⟨(([] : List (List Int))), (a0), rB, H', ⟨Nat.le_refl _⟩, ⟨by first | exact Kd.S_nil _ _ _ _ _ | exact Kd.N_nil _ _ _ _ _ | exact Kd.V_nil _ _ _ _ _ | exact Kd.Q_nil _ _ _ _ _ | exact Kd.R_nil _ _ _ _ _⟩, (aB HB)⟩
 case round =>
  clear H'
  try clear c2
  obtain ⟨x7_1, x8_1, rfl, HA, HK1, HO_7, HB⟩ := hrel
  cases gk with
  | zero => exact absurd HA.out (by simp [impl_spans.l0])
  | succ k1 =>
   have H := HA.out
   clear HA
   simp only [impl_spans.l0] at H
   replace H := ifD H
   rcases H with ⟨H, -, c5b0⟩ | ⟨H, -, c5b0⟩
   ·replace H := bA H
    obtain ⟨t175, A6, H⟩ := H
    rcases Bool.eq_false_or_eq_true t175 with rfl | rfl
    ·replace H := iT rfl H
     replace H := ifD H
     rcases H with ⟨H, -, c8b0⟩ | ⟨H, -, c8b0⟩
     ·obtain ⟨ji9, hji9⟩ : ∃ j_ : Int, (wrap64 ((x7_1.length : Int) - 1)) = j_ := ⟨_, rfl⟩
      replace H : (if 0 ≤ (ji9) then (if (ji9) < (x7_1.length : Int) then (if 1 < ((rd_L5 x7_1 (ji9)).length : Int) then (if (rd (rd_L5 x7_1 (ji9)) 1) = (wrap64 (x8_1 - 1)) then (impl_spans.l0 k1 a1 l2 a3 (x7_1.set ((ji9) : Int).toNat ((rd_L5 x7_1 (ji9)).set (1 : Int).toNat x8_1)) (wrap64 (x8_1 + 1))) else (if x7_1.length < 5864062014805 then (impl_spans.l0 k1 a1 l2 a3 (x7_1 ++ [(([x8_1, x8_1] : List Int))]) (wrap64 (x8_1 + 1))) else (none))) else (none)) else (none)) else (none)) = some r := by first | (rw [hji9] at H; exact H) | (simp only [hji9] at H ⊢; exact H)
      (try rw [hji9] at c8b0)
      (try rw [hji9] at A6)
      have hji9w : (IntKind.i64.wrap ((x7_1.length : Int) - 1)) = ji9 := (i64_w _).trans hji9
      by_cases c10 : 0 ≤ (ji9)
      ·rw [if_pos c10] at H
       have c10b0 : decide (0 ≤ (ji9)) = true := decide_eq_true c10
       clear c10
       by_cases c11 : (ji9) < (x7_1.length : Int)
       ·rw [if_pos c11] at H
        have c11b0 : decide ((ji9) < (x7_1.length : Int)) = true := decide_eq_true c11
        clear c11
        by_cases c12 : 1 < ((rd_L5 x7_1 (ji9)).length : Int)
        ·rw [if_pos c12] at H
         have c12b0 : decide (1 < ((rd_L5 x7_1 (ji9)).length : Int)) = true := decide_eq_true c12
         have c12b1 : decide (1 < (rd_L5 x7_1 (ji9)).length) = true := decide_eq_true (by omega)
         clear c12
         replace H := ifI H
         rcases H with ⟨H, -, c13b0, c13b1⟩ | ⟨H, c13, c13b0, c13b1⟩
         ·obtain ⟨y179, hy179⟩ : ∃ y_ : List Int, y_ = ((rd_L5 x7_1 (ji9)).set (1 : Int).toNat x8_1) := ⟨_, rfl⟩
          replace H : (impl_spans.l0 k1 a1 l2 a3 (x7_1.set ((ji9) : Int).toNat y179) (wrap64 (x8_1 + 1))) = some r := by first | (rw [hy179]; with_reducible exact H) | (have H2_ := (Option.bind_some _ _).symm.trans H; rw [hy179]; with_reducible exact H2_) | (have H2_ := (Option.bind_some _ _).symm.trans H; with_reducible exact H2_) | with_reducible exact H | (rw [hy179]; exact H) | exact H
          have Ny179 := Aside0.mk hy179
          clear hy179
          obtain ⟨y181, hy181⟩ : ∃ y_ : List (List Int), y_ = (x7_1.set ((ji9) : Int).toNat y179) := ⟨_, rfl⟩
          replace H : (impl_spans.l0 k1 a1 l2 a3 y181 (wrap64 (x8_1 + 1))) = some r := by first | (rw [hy181]; with_reducible exact H) | (have H2_ := (Option.bind_some _ _).symm.trans H; rw [hy181]; with_reducible exact H2_) | (have H2_ := (Option.bind_some _ _).symm.trans H; with_reducible exact H2_) | with_reducible exact H | (rw [hy181]; exact H) | exact H
          have Ny181 := Aside0.mk hy181
          clear hy181
          have H' := Aside0.mk H
          clear H
          go_wp2_with (first | (go_at_call 77; (with_reducible refine (impl_xFree.calls _ _ l2 a3 x8_1 true _ ?side1 ?side2 A6.out).mono ?_); (case side1 => repeat (first | exact (Kd.C_below HR2.out HB.out) | (with_reducible refine Kd.C_alloc ?_ _) | (with_reducible refine Kd.C_drewN ?_ _) | (with_reducible refine Kd.C_drew ?_))); (case side2 => exact HC2.out); rintro e w15 ⟨rfl, hb⟩; replace HO_7 := Aside0.mk (Kd.S_below (by (with_reducible repeat (first | apply Kd.S_alloc | apply Kd.S_drewN | apply Kd.S_drew)); exact HO_7.out) hb); replace HB := uB HB hb; (try clear hb); (try clear hk); obtain ⟨Ao16, co16, eo16⟩ := Kd.S_slice HO_7.out; subst eo16; have p176 : 0 ≤ ((ji9) : Int) := of_decide_eq_true asmB; have q176 : (ji9) < (x7_1.length : Int) := of_decide_eq_true asmB; obtain ⟨ad176, A176_0, c176_0, e176, hx176_0, hl176_0, hi176_0⟩ := at_L5 (Kd.S_reads' HO_7.out).2.2 (ji9) p176 q176; cases e176; obtain ⟨ce176, hce176, hMe176, hcc176⟩ := Kd.S_get HO_7.out [] (ji9) p176 (by first | exact q176 | exact of_decide_eq_true asmB | (have e_ := (Kd.S_reads' HO_7.out).1; omega)); obtain ⟨ve176_0, rfl, ge176_0⟩ := hMe176; have hv176_0 := hcc176 0 _ rfl; rw [Nat.add_zero, show ((Kd.slice 3 (Kd.int .i64))).sz = 1 from rfl, Nat.mul_one] at hv176_0; replace hv176_0 := Option.some.inj (hv176_0.symm.trans hx176_0); rw [hv176_0] at ge176_0; have HL176_0 := Aside0.mk (show Kd.R (Kd.int .i64) 3 _ _ _ _ (rd_L5 x7_1 (ji9)) from ge176_0); clear hv176_0 ge176_0; have HX176_0 := Aside0.mk hx176_0; clear hcc176 hce176; have HR176_0 := Aside0.mk hi176_0; have HC176_0 := Aside0.mk hl176_0; clear hi176_0 hl176_0; replace p176 := eq_true p176; replace q176 := eq_true q176; have p177 : 0 ≤ (1 : Int) := (by omega); have q177 : 1 < ((rd_L5 x7_1 (ji9)).length : Int) := of_decide_eq_true asmB; obtain ⟨ad177, e177, hx177_0⟩ := Kd.at_int (by repeat (first | (with_reducible exact HR176_0.out) | (with_reducible refine Kd.C_alloc ?_ _) | (with_reducible refine Kd.C_drewN ?_ _) | (with_reducible refine Kd.C_drew ?_) | exact HR176_0.out)) 1 p177 q177; cases e177; (try simp only [show (1 : Int).toNat = 1 from rfl, Nat.reduceMul, Nat.reduceEqDiff, Go.Addr.add, ↓reduceIte] at hx177_0); have qi177 : (1 < (rd_L5 x7_1 (ji9)).length) = True := eq_true (by omega); (try rw [show ((1 : Int)).toNat = 1 from rfl] at hx177_0); replace p177 := eq_true p177; replace q177 := eq_true q177; have p178 : 0 ≤ ((ji9) : Int) := of_decide_eq_true asmB; have q178 : (ji9) < (x7_1.length : Int) := of_decide_eq_true asmB; obtain ⟨ad178, A178_0, c178_0, e178, hx178_0, hl178_0, hi178_0⟩ := at_L5 (Kd.S_reads' HO_7.out).2.2 (ji9) p178 q178; obtain rfl : ad176 = ad178 := (by injection e178); obtain ⟨ce178, hce178, hMe178, hcc178⟩ := Kd.S_get HO_7.out [] (ji9) p178 (by first | exact q178 | exact of_decide_eq_true asmB | (have e_ := (Kd.S_reads' HO_7.out).1; omega)); obtain ⟨ve178_0, rfl, ge178_0⟩ := hMe178; have hv178_0 := hcc178 0 _ rfl; rw [Nat.add_zero, show ((Kd.slice 3 (Kd.int .i64))).sz = 1 from rfl, Nat.mul_one] at hv178_0; replace hv178_0 := Option.some.inj (hv178_0.symm.trans hx178_0); rw [hv178_0] at ge178_0; have HL178_0 := Aside0.mk (show Kd.R (Kd.int .i64) 3 _ _ _ _ (rd_L5 x7_1 (ji9)) from ge178_0); clear hv178_0 ge178_0; have HX178_0 := Aside0.mk hx178_0; clear hcc178 hce178; have HR178_0 := Aside0.mk hi178_0; have HC178_0 := Aside0.mk hl178_0; clear hi178_0 hl178_0; replace p178 := eq_true p178; replace q178 := eq_true q178; have ea_ := Option.some.inj (hx176_0.symm.trans hx178_0); injection ea_ with ea_ en_ ec_; subst ea_; subst ec_; clear en_; have p14 : 0 ≤ (1 : Int) := (by omega); have q14 : (1 : Int) < (((rd_L5 x7_1 (ji9)).length : Int) : Int) := of_decide_eq_true asmB; have qi14 : (1 < (rd_L5 x7_1 (ji9)).length) = True := eq_true (by omega); obtain ⟨go14, co14, eo14, gb14, gl14, cl14, HG14⟩ := Kd.R_form HL178_0.out (by omega); (first | cases eo14 | (injection eo14 with ea_ en_ ec_; (first | subst ea_ | (injection ea_ with ea_; subst ea_)); subst ec_; clear en_)); have GB14 := Aside0.mk gb14; have GG14 := Aside0.mk HG14; clear gb14 gl14 HG14; (first | simp only [add_plain] at hx177_0 | skip); obtain ⟨hx14_0, hf14_0⟩ := Kd.R_celln 0 HL178_0.out (1 : Int) p14 q14; (try rw [show ((1 : Int)).toNat = 1 from rfl] at hx14_0); (try simp only [Nat.reduceMul, Nat.zero_mul, Nat.zero_add, Nat.reduceAdd] at hx14_0); (try rw [show ((1 : Int)).toNat = 1 from rfl] at hf14_0); (try simp only [Nat.reduceMul, Nat.zero_mul, Nat.zero_add, Nat.reduceAdd] at hf14_0); replace p14 := eq_true p14; replace q14 := eq_true q14; have hq17 : ((ji9) : Int) < (x7_1.length : Int) := (by have h_ : ((ji9) : Int) < ((x7_1.length : Int) : Int) := of_decide_eq_true asmB; first | exact h_ | (have e_ := (Kd.S_reads' HO_7.out).1; omega) | simpa only [List.length_set, List.length_set] using h_); obtain ⟨oki17, ce17, hcl17, hM17, hcc17, hok17, hbk17⟩ := Kd.S_borrow HO_7.out [] ((ji9) : Int) (of_decide_eq_true asmB) hq17; obtain ⟨ve17_0, rfl, ge17_0⟩ := hM17; have hv17 := hcc17 0 _ rfl; rw [Nat.add_zero, show ((Kd.slice 3 (Kd.int .i64))).sz = 1 from rfl, Nat.mul_one] at hv17; replace hv17 := Option.some.inj (hv17.symm.trans HX178_0.out); subst hv17; clear hcc17 hcl17; replace ge17_0 := (show Kd.R (Kd.int .i64) 3 _ _ _ _ (rd_L5 x7_1 (ji9)) from ge17_0); have HP17 := Kd.R_putg ge17_0 (1 : Int) x8_1) | ((with_reducible refine gate_store (t := 3) (p := 41) rfl ?_); refine store_event (t := 3) (p := 41) (v := ?vo_w18) (w1 := (w15.setCell ⟨go14, 1, none⟩ (.int .i64 x8_1))) ?hg ?ho ?hn ?hr ?_; (case ho => rfl); (case hg => rfl); (case hn => rfl); (case hr => first | (go_simp; done) | (go_simp; rfl)); intro w18 hw; have hg : w15.grownBy w18 (some go14) := (by rw [hw]; exact HP17.2); have hz_ : Kd.R (Kd.int .i64) 3 w18 w.heap.size oki17 (.slice (some ⟨go14, 0, none⟩) (rd_L5 x7_1 (ji9)).length c176_0) y179 := (by rw [hw, Ny179.out]; exact HP17.1); have hp_ : Kd.S (Kd.slice 3 (Kd.int .i64)) 68 w18 w.heap.size (fun _ => True) (.slice (some ad176) x7_1.length co16) y181 := (by rw [Ny181.out]; exact hbk17 hg (fun k_ e_ => by injection e_ with e_; subst e_; exact ge17_0.1 _ rfl) (Kd.M_row hz_)); have hm_ := Kd.R_mono hz_ hok17; clear HP17 hbk17; have HL194 := Aside0.mk (hm_); have HC180 := Aside0.mk ((Kd.R_reads' hm_).2.1); replace HO_7 := Aside0.mk (hp_); replace HB := Aside0.mk ((by rw [hw]; exact below_set (HB.out) GB14.out : Below w.heap.size w w18)); clear HL176_0 HL178_0; clear hg hw hp_ hz_ hm_ hok17))
          go_roundg k1
          case measure => have := HK1.out; omega
          case rel => exact ⟨(y181), (wrap64 (x8_1 + 1)), rB, H', ⟨by have := HK1.out; omega⟩, ⟨by (with_reducible repeat (first | apply Kd.S_alloc | apply Kd.S_drewN | apply Kd.S_drew)); exact HO_7.out⟩, (aB HB)⟩
         ·obtain ⟨y182, hy182⟩ : ∃ y_ : List Int, y_ = (([x8_1, x8_1] : List Int)) := ⟨_, rfl⟩
          replace H : (if x7_1.length < 5864062014805 then (impl_spans.l0 k1 a1 l2 a3 (x7_1 ++ [y182]) (wrap64 (x8_1 + 1))) else (none)) = some r := by first | (rw [hy182]; with_reducible exact H) | (have H2_ := (Option.bind_some _ _).symm.trans H; rw [hy182]; with_reducible exact H2_) | (have H2_ := (Option.bind_some _ _).symm.trans H; with_reducible exact H2_) | with_reducible exact H | (rw [hy182]; exact H) | exact H
          have Ny182 := Aside0.mk hy182
          clear hy182
          by_cases c19 : x7_1.length < 5864062014805
          ·rw [if_pos c19] at H
           have LMc19 := Aside0.mk c19
           clear c19
           obtain ⟨y185, hy185⟩ : ∃ y_ : List (List Int), y_ = (x7_1 ++ [y182]) := ⟨_, rfl⟩
           replace H : (impl_spans.l0 k1 a1 l2 a3 y185 (wrap64 (x8_1 + 1))) = some r := by first | (rw [hy185]; with_reducible exact H) | (have H2_ := (Option.bind_some _ _).symm.trans H; rw [hy185]; with_reducible exact H2_) | (have H2_ := (Option.bind_some _ _).symm.trans H; with_reducible exact H2_) | with_reducible exact H | (rw [hy185]; exact H) | exact H
           have Ny185 := Aside0.mk hy185
           clear hy185
           have H' := Aside0.mk H
           clear H
           go_wp2_with (first | (go_at_call 77; (with_reducible refine (impl_xFree.calls _ _ l2 a3 x8_1 true _ ?side1 ?side2 A6.out).mono ?_); (case side1 => repeat (first | exact (Kd.C_below HR2.out HB.out) | (with_reducible refine Kd.C_alloc ?_ _) | (with_reducible refine Kd.C_drewN ?_ _) | (with_reducible refine Kd.C_drew ?_))); (case side2 => exact HC2.out); rintro e w20 ⟨rfl, hb⟩; replace HO_7 := Aside0.mk (Kd.S_below (by (with_reducible repeat (first | apply Kd.S_alloc | apply Kd.S_drewN | apply Kd.S_drew)); exact HO_7.out) hb); replace HB := uB HB hb; (try clear hb); (try clear hk); obtain ⟨Ao21, co21, eo21⟩ := Kd.S_slice HO_7.out; subst eo21; have p176 : 0 ≤ ((ji9) : Int) := of_decide_eq_true asmB; have q176 : (ji9) < (x7_1.length : Int) := of_decide_eq_true asmB; obtain ⟨ad176, A176_0, c176_0, e176, hx176_0, hl176_0, hi176_0⟩ := at_L5 (Kd.S_reads' HO_7.out).2.2 (ji9) p176 q176; cases e176; obtain ⟨ce176, hce176, hMe176, hcc176⟩ := Kd.S_get HO_7.out [] (ji9) p176 (by first | exact q176 | exact of_decide_eq_true asmB | (have e_ := (Kd.S_reads' HO_7.out).1; omega)); obtain ⟨ve176_0, rfl, ge176_0⟩ := hMe176; have hv176_0 := hcc176 0 _ rfl; rw [Nat.add_zero, show ((Kd.slice 3 (Kd.int .i64))).sz = 1 from rfl, Nat.mul_one] at hv176_0; replace hv176_0 := Option.some.inj (hv176_0.symm.trans hx176_0); rw [hv176_0] at ge176_0; have HL176_0 := Aside0.mk (show Kd.R (Kd.int .i64) 3 _ _ _ _ (rd_L5 x7_1 (ji9)) from ge176_0); clear hv176_0 ge176_0; have HX176_0 := Aside0.mk hx176_0; clear hcc176 hce176; have HR176_0 := Aside0.mk hi176_0; have HC176_0 := Aside0.mk hl176_0; clear hi176_0 hl176_0; replace p176 := eq_true p176; replace q176 := eq_true q176; have p177 : 0 ≤ (1 : Int) := (by omega); have q177 : 1 < ((rd_L5 x7_1 (ji9)).length : Int) := of_decide_eq_true asmB; obtain ⟨ad177, e177, hx177_0⟩ := Kd.at_int (by repeat (first | (with_reducible exact HR176_0.out) | (with_reducible refine Kd.C_alloc ?_ _) | (with_reducible refine Kd.C_drewN ?_ _) | (with_reducible refine Kd.C_drew ?_) | exact HR176_0.out)) 1 p177 q177; cases e177; (try simp only [show (1 : Int).toNat = 1 from rfl, Nat.reduceMul, Nat.reduceEqDiff, Go.Addr.add, ↓reduceIte] at hx177_0); have qi177 : (1 < (rd_L5 x7_1 (ji9)).length) = True := eq_true (by omega); (try rw [show ((1 : Int)).toNat = 1 from rfl] at hx177_0); replace p177 := eq_true p177; replace q177 := eq_true q177) | ((with_reducible refine gate_dst (N := 45) rfl ?_); refine Kd.R_lit (Kd.int .i64) _ 3 ?hg (N := 45) ?hd (xs := ([x8_1, x8_1] : List Int)) (inner := [.int .i64 x8_1, .int .i64 x8_1]) (ok := fun _ => True) (okp := fun _ => True) ?hr ?hp (fun _ hk => hk) trivial (Below.refl _ _) (Nat.le_refl _) (by simp) ?_; (case hd => rfl); (case hg => rfl); (case hr => first | (go_simp; done) | (go_simp; rfl)); (case hp => exact (Reps.one (show Kd.M (Kd.int .i64) _ _ _ x8_1 [.int .i64 x8_1] from rfl) (Reps.one (show Kd.M (Kd.int .i64) _ _ _ x8_1 [.int .i64 x8_1] from rfl) (Reps.none _ _)))); intro v183 w22 ho23 hb hg_ hnew_; clear hg_ hnew_; (first | rw [← Ny182.out] at ho23 | (simp only [Int.reduceToNat] at ho23; rw [← Ny182.out] at ho23)); have HO184 := Aside0.mk (Kd.R_lower (Kd.R_new' ho23 (Kd.R_lt (upR HL176_0.out))) (below_size (bW HB))); replace HO_7 := Aside0.mk (Kd.S_elder' (by (with_reducible repeat (first | apply Kd.S_alloc | apply Kd.S_drewN | apply Kd.S_drew)); exact HO_7.out) (Kd.R_base ho23) hb); replace HL176_0 := Aside0.mk (Kd.R_elder' (upR HL176_0.out) (Kd.R_base ho23) hb); replace HR176_0 := Aside0.mk (Kd.C_below (by repeat (first | (with_reducible exact HR176_0.out) | (with_reducible refine Kd.C_alloc ?_ _) | (with_reducible refine Kd.C_drewN ?_ _) | (with_reducible refine Kd.C_drew ?_) | exact HR176_0.out)) hb); replace HX176_0 := Aside0.mk (pw_cell_below hb HX176_0.out); replace HB := uB HB hb; clear hb ho23; obtain ⟨Ao25, co25, eo25⟩ := Kd.R_slice HO184.out; subst eo25) | ((with_reducible refine gate_builtin (b := .append) (xs := #[.tmp 42, .tmp 46]) rfl ?_); at_builtin; refine Kd.S_append (Kd.slice 3 (Kd.int .i64)) (w0 := w) w.heap.size rfl (.tmp 42) (.tmp 46) 52 68 (.slice none 0 0) 24 rfl Tryd.underlying52 info68 rfl (by decide) (by omega) (.slice (some ad176) x7_1.length co21) x7_1 y182 [.slice Ao25 y182.length co25] (fun _ => True) (fun k_ => some k_ = (.slice Ao25 y182.length co25 : Value).ownBlock) rfl rfl ?aP (fun k_ hk_ => ((Kd.R_mono (ok' := fun k_ => ((fun _ => True)) k_ ∧ some k_ ≠ (.slice (some ad176) x7_1.length co21 : Value).ownBlock) (Kd.R_apart' (HO184.out) (Kd.S_typed HO_7.out) (by decide)) (fun k_ hk => ⟨trivial, hk.2⟩))).1 k_ hk_.symm) ?aF ?aO ?aB ?aS ?aL ?_; (case aP => exact Kd.M_row (Kd.R_mono (Kd.R_tight rfl (Kd.R_mono (ok' := fun k_ => ((fun _ => True)) k_ ∧ some k_ ≠ (.slice (some ad176) x7_1.length co21 : Value).ownBlock) (Kd.R_apart' (HO184.out) (Kd.S_typed HO_7.out) (by decide)) (fun k_ hk => ⟨trivial, hk.2⟩))) (fun _ h_ => h_))); (case aB => exact (bW HB)); (case aF => exact (fun _ _ => trivial)); (case aO => exact (by (with_reducible repeat (first | apply Kd.S_alloc | apply Kd.S_drewN | apply Kd.S_drew)); exact Kd.S_mono HO_7.out (fun k_ hk => ⟨trivial, fun e_ => hk.2 e_⟩))); (case aS => exact (below_size (bW HB))); (case aL => have := LMc19.out; omega); intro v186 w24 ho hb hg hat; rw [← Ny185.out] at ho; have HO187 := Aside0.mk (ho); replace HL176_0 := Aside0.mk (Kd.R_after (ok := (fun k_ => some k_ ≠ (.slice Ao25 y182.length co25 : Value).ownBlock)) (by (with_reducible repeat (first | apply Kd.R_alloc | apply Kd.R_drewN | apply Kd.R_drew)); exact Kd.R_mono HL176_0.out (fun _ hk => ⟨hk.2, hk.1.2⟩)) hg hat); replace HB := Aside0.mk (hb); clear HO_7 HO184; clear ho hb hg hat))
           go_roundg k1
           case measure => have := HK1.out; omega
           case rel => exact ⟨(y185), (wrap64 (x8_1 + 1)), rB, H', ⟨by have := HK1.out; omega⟩, ⟨by (with_reducible repeat (first | apply Kd.S_alloc | apply Kd.S_drewN | apply Kd.S_drew)); exact HO187.out⟩, (aB HB)⟩
          ·rw [if_neg c19] at H
           exact absurd H (by simp)
        ·rw [if_neg c12] at H
         exact absurd H (by simp)
       ·rw [if_neg c11] at H
        exact absurd H (by simp)
      ·rw [if_neg c10] at H
       exact absurd H (by simp)
     ·obtain ⟨y188, hy188⟩ : ∃ y_ : List Int, y_ = (([x8_1, x8_1] : List Int)) := ⟨_, rfl⟩
      replace H : (if x7_1.length < 5864062014805 then (impl_spans.l0 k1 a1 l2 a3 (x7_1 ++ [y188]) (wrap64 (x8_1 + 1))) else (none)) = some r := by first | (rw [hy188]; with_reducible exact H) | (have H2_ := (Option.bind_some _ _).symm.trans H; rw [hy188]; with_reducible exact H2_) | (have H2_ := (Option.bind_some _ _).symm.trans H; with_reducible exact H2_) | with_reducible exact H | (rw [hy188]; exact H) | exact H
      have Ny188 := Aside0.mk hy188
      clear hy188
      by_cases c26 : x7_1.length < 5864062014805
      ·rw [if_pos c26] at H
       have LMc26 := Aside0.mk c26
       clear c26
       obtain ⟨y191, hy191⟩ : ∃ y_ : List (List Int), y_ = (x7_1 ++ [y188]) := ⟨_, rfl⟩
       replace H : (impl_spans.l0 k1 a1 l2 a3 y191 (wrap64 (x8_1 + 1))) = some r := by first | (rw [hy191]; with_reducible exact H) | (have H2_ := (Option.bind_some _ _).symm.trans H; rw [hy191]; with_reducible exact H2_) | (have H2_ := (Option.bind_some _ _).symm.trans H; with_reducible exact H2_) | with_reducible exact H | (rw [hy191]; exact H) | exact H
       have Ny191 := Aside0.mk hy191
       clear hy191
       have H' := Aside0.mk H
       clear H
       go_wp2_with (first | (go_at_call 77; (with_reducible refine (impl_xFree.calls _ _ l2 a3 x8_1 true _ ?side1 ?side2 A6.out).mono ?_); (case side1 => repeat (first | exact (Kd.C_below HR2.out HB.out) | (with_reducible refine Kd.C_alloc ?_ _) | (with_reducible refine Kd.C_drewN ?_ _) | (with_reducible refine Kd.C_drew ?_))); (case side2 => exact HC2.out); rintro e w27 ⟨rfl, hb⟩; replace HO_7 := Aside0.mk (Kd.S_below (by (with_reducible repeat (first | apply Kd.S_alloc | apply Kd.S_drewN | apply Kd.S_drew)); exact HO_7.out) hb); replace HB := uB HB hb; (try clear hb); (try clear hk); obtain ⟨Ao28, co28, eo28⟩ := Kd.S_slice HO_7.out; subst eo28) | ((with_reducible refine gate_dst (N := 45) rfl ?_); refine Kd.R_lit (Kd.int .i64) _ 3 ?hg (N := 45) ?hd (xs := ([x8_1, x8_1] : List Int)) (inner := [.int .i64 x8_1, .int .i64 x8_1]) (ok := fun _ => True) (okp := fun _ => True) ?hr ?hp (fun _ hk => hk) trivial (Below.refl _ _) (Nat.le_refl _) (by simp) ?_; (case hd => rfl); (case hg => rfl); (case hr => first | (go_simp; done) | (go_simp; rfl)); (case hp => exact (Reps.one (show Kd.M (Kd.int .i64) _ _ _ x8_1 [.int .i64 x8_1] from rfl) (Reps.one (show Kd.M (Kd.int .i64) _ _ _ x8_1 [.int .i64 x8_1] from rfl) (Reps.none _ _)))); intro v189 w29 ho30 hb hg_ hnew_; clear hg_ hnew_; (first | rw [← Ny188.out] at ho30 | (simp only [Int.reduceToNat] at ho30; rw [← Ny188.out] at ho30)); have HO190 := Aside0.mk (Kd.R_lower ho30 (below_size (bW HB))); replace HO_7 := Aside0.mk (Kd.S_elder' (by (with_reducible repeat (first | apply Kd.S_alloc | apply Kd.S_drewN | apply Kd.S_drew)); exact HO_7.out) (Kd.R_base ho30) hb); replace HB := uB HB hb; clear hb ho30; obtain ⟨Ao32, co32, eo32⟩ := Kd.R_slice HO190.out; subst eo32) | ((with_reducible refine gate_builtin (b := .append) (xs := #[.tmp 42, .tmp 46]) rfl ?_); at_builtin; refine Kd.S_append (Kd.slice 3 (Kd.int .i64)) (w0 := w) w.heap.size rfl (.tmp 42) (.tmp 46) 52 68 (.slice none 0 0) 24 rfl Tryd.underlying52 info68 rfl (by decide) (by omega) (.slice Ao28 x7_1.length co28) x7_1 y188 [.slice Ao32 y188.length co32] (fun _ => True) (fun k_ => some k_ = (.slice Ao32 y188.length co32 : Value).ownBlock) rfl rfl ?aP (fun k_ hk_ => ((Kd.R_mono (ok' := fun k_ => ((fun _ => True)) k_ ∧ some k_ ≠ (.slice Ao28 x7_1.length co28 : Value).ownBlock) (Kd.R_apart' (HO190.out) (Kd.S_typed HO_7.out) (by decide)) (fun k_ hk => ⟨trivial, hk.2⟩))).1 k_ hk_.symm) ?aF ?aO ?aB ?aS ?aL ?_; (case aP => exact Kd.M_row (Kd.R_mono (Kd.R_tight rfl (Kd.R_mono (ok' := fun k_ => ((fun _ => True)) k_ ∧ some k_ ≠ (.slice Ao28 x7_1.length co28 : Value).ownBlock) (Kd.R_apart' (HO190.out) (Kd.S_typed HO_7.out) (by decide)) (fun k_ hk => ⟨trivial, hk.2⟩))) (fun _ h_ => h_))); (case aB => exact (bW HB)); (case aF => exact (fun _ _ => trivial)); (case aO => exact (by (with_reducible repeat (first | apply Kd.S_alloc | apply Kd.S_drewN | apply Kd.S_drew)); exact Kd.S_mono HO_7.out (fun k_ hk => ⟨trivial, fun e_ => hk.2 e_⟩))); (case aS => exact (below_size (bW HB))); (case aL => have := LMc26.out; omega); intro v192 w31 ho hb hg hat; rw [← Ny191.out] at ho; have HO193 := Aside0.mk (ho); replace HB := Aside0.mk (hb); clear HO_7 HO190; clear ho hb hg hat))
       go_roundg k1
       case measure => have := HK1.out; omega
       case rel => exact ⟨(y191), (wrap64 (x8_1 + 1)), rB, H', ⟨by have := HK1.out; omega⟩, ⟨by (with_reducible repeat (first | apply Kd.S_alloc | apply Kd.S_drewN | apply Kd.S_drew)); exact HO193.out⟩, (aB HB)⟩
      ·rw [if_neg c26] at H
       exact absurd H (by simp)
    ·replace H := iF (by decide) H
     have H' := Aside0.mk H
     clear H
     go_wp2_with (first | (go_at_call 77; (with_reducible refine (impl_xFree.calls _ _ l2 a3 x8_1 false _ ?side1 ?side2 A6.out).mono ?_); (case side1 => repeat (first | exact (Kd.C_below HR2.out HB.out) | (with_reducible refine Kd.C_alloc ?_ _) | (with_reducible refine Kd.C_drewN ?_ _) | (with_reducible refine Kd.C_drew ?_))); (case side2 => exact HC2.out); rintro e w33 ⟨rfl, hb⟩; replace HO_7 := Aside0.mk (Kd.S_below (by (with_reducible repeat (first | apply Kd.S_alloc | apply Kd.S_drewN | apply Kd.S_drew)); exact HO_7.out) hb); replace HB := uB HB hb; (try clear hb); (try clear hk)))
     go_roundg k1
     case measure => have := HK1.out; omega
     case rel => exact ⟨(x7_1), (wrap64 (x8_1 + 1)), rB, H', ⟨by have := HK1.out; omega⟩, ⟨by (with_reducible repeat (first | apply Kd.S_alloc | apply Kd.S_drewN | apply Kd.S_drew)); exact HO_7.out⟩, (aB HB)⟩
   ·obtain rfl := Option.some.inj H
    go_wp2
    go_ret
    exact ⟨_, eB, by (with_reducible repeat (first | apply Kd.S_alloc | apply Kd.S_drewN | apply Kd.S_drew)); exact HO_7.out, (bW HB)⟩

/-! ### impl_FreeDays: function 38 -/
-- reaches: impl.spans
-- reaches: impl.ArePermits
-- reaches: impl.isWord
-- reaches: impl.isDay
-- reaches: impl.within
def impl_FreeDays.f (k : Nat) (l0 : List (S26)) (a1 : ByteArray) (a2 a3 : Int) : Option ((List (List Int)) × Bool) := (impl_ArePermits.f k l0).bind fun t1 => (if t1 = true then ((impl_isWord.f a1).bind fun t2 => (if t2 = true then ((impl_isDay.f a2).bind fun t3 => (if t3 = true then ((impl_within.f a3 a2 999).bind fun t4 => (if t4 = true then ((impl_spans.f k a2 a3 l0 a1).bind fun t5 => (some (t5, true))) else (some (([] : List (List Int)), false)))) else (some (([] : List (List Int)), false)))) else (some (([] : List (List Int)), false)))) else (some (([] : List (List Int)), false)))
theorem impl_FreeDays.mono : ∀ a0 a1 a2 a3 k, LeO (impl_FreeDays.f k a0 a1 a2 a3) (impl_FreeDays.f (k + 1) a0 a1 a2 a3) := by
 intro a0 a1 a2 a3 k
 unfold impl_FreeDays.f
 repeat' with_reducible first | apply impl_ArePermits.mono | apply impl_spans.mono | exact LeO.refl _ | exact LeO.none _ | refine LeO.ite ?_ ?_ | refine LeO.bind ?_ (fun _ => ?_)
theorem twoBoxes (w : World) (o1 o2 : Obj) : ((w.alloc o1).alloc o2).heap[w.heap.size]? = some o1 ∧ ((w.alloc o1).alloc o2).heap[w.heap.size + 1]? = some o2 ∧ Below w.heap.size w ((w.alloc o1).alloc o2) := by
 have h2 := blk_new (w.alloc o1) o2
 rw [alloc_size] at h2
 exact ⟨blk_alloc (blk_new w o1) _, h2, by repeat (first | exact Below.refl _ _ | apply below_alloc)⟩
set_option maxHeartbeats 8000000 in
set_option maxRecDepth 100000 in
theorem impl_FreeDays.calls (k : Nat) (A0 : Option Addr) (c0 : Nat) (l0 : List (S26)) (a1 : ByteArray) (a2 a3 : Int) (r1 : List (List Int)) (r2 : Bool) (w : World) (hr0 : Kd.C k26 w A0 l0.length l0) (hc0 : l0.length ≤ c0) (h : impl_FreeDays.f k l0 a1 a2 a3 = some (r1, r2)) :
  Calls Tryd.prog 38 #[.slice A0 l0.length c0, .string a1, .int .i64 a2, .int .i64 a3] w fun e w' => ∃ v0_ : Value, e = .returned (.tuple #[v0_, .bool r2]) ∧ Kd.S (Kd.slice 3 (Kd.int .i64)) 68 w' w.heap.size (fun _ => True) v0_ r1 ∧ Below w.heap.size w w' := by
 unfold impl_FreeDays.f at h
 obtain ⟨t1, ht1, h⟩ := Option.bind_eq_some_iff.1 h
 obtain ⟨d1, d2, hB0⟩ := twoBoxes w (.cells #[.slice A0 l0.length c0] 32) (.cells #[.string a1] 9)
 have E0 := Aside0.mk d1
 have F0 := Aside0.mk d2
 have HB0 := Aside0.mk hB0
 have HR0 := Aside0.mk hr0
 clear d1 d2 hB0 hr0
 cases t1 with
 | false =>
  rw [if_neg (by decide)] at h
  simp only [Option.some.injEq, Prod.mk.injEq] at h
  obtain ⟨rfl, rfl⟩ := h
  go_enter Tryd.func38, Tryd.ntmps38
  go_wp2_with (first | (go_at_call 21; with_reducible refine (impl_ArePermits.calls k _ _ l0 false _ ?s1 ?s2 ht1).mono ?_; (case s1 => exact Kd.C_below HR0.out HB0.out); (case s2 => exact hc0); rintro e w1 ⟨rfl, hb⟩; have HB1 := Aside0.mk (below_step HB0.out hb); have E1 := Aside0.mk (blk_below E0.out hb); have F1 := Aside0.mk (blk_below F0.out hb); clear hb; have x2 := (blk_cell F1.out 0).trans rfl))
  go_ret2
  exact ⟨_, rfl, Kd.S_nil _ _ _ _ _, HB1.out⟩
 | true =>
  rw [if_pos rfl] at h
  obtain ⟨t2, ht2, h⟩ := Option.bind_eq_some_iff.1 h
  cases t2 with
  | false =>
   rw [if_neg (by decide)] at h
   simp only [Option.some.injEq, Prod.mk.injEq] at h
   obtain ⟨rfl, rfl⟩ := h
   go_enter Tryd.func38, Tryd.ntmps38
   go_wp2_with (first | (go_at_call 21; with_reducible refine (impl_ArePermits.calls k _ _ l0 true _ ?s1 ?s2 ht1).mono ?_; (case s1 => exact Kd.C_below HR0.out HB0.out); (case s2 => exact hc0); rintro e w1 ⟨rfl, hb⟩; have HB1 := Aside0.mk (below_step HB0.out hb); have E1 := Aside0.mk (blk_below E0.out hb); have F1 := Aside0.mk (blk_below F0.out hb); clear hb; have x2 := (blk_cell F1.out 0).trans rfl) | (go_at_call 55; with_reducible refine (impl_isWord.calls a1 false _ ht2).mono ?_; rintro e w2 ⟨rfl, hb⟩; have HB2 := Aside0.mk (below_step HB1.out hb); have E2 := Aside0.mk (blk_below E1.out hb); have F2 := Aside0.mk (blk_below F1.out hb); clear hb))
   go_ret2
   exact ⟨_, rfl, Kd.S_nil _ _ _ _ _, HB2.out⟩
  | true =>
   rw [if_pos rfl] at h
   obtain ⟨t3, ht3, h⟩ := Option.bind_eq_some_iff.1 h
   cases t3 with
   | false =>
    rw [if_neg (by decide)] at h
    simp only [Option.some.injEq, Prod.mk.injEq] at h
    obtain ⟨rfl, rfl⟩ := h
    go_enter Tryd.func38, Tryd.ntmps38
    go_wp2_with (first | (go_at_call 21; with_reducible refine (impl_ArePermits.calls k _ _ l0 true _ ?s1 ?s2 ht1).mono ?_; (case s1 => exact Kd.C_below HR0.out HB0.out); (case s2 => exact hc0); rintro e w1 ⟨rfl, hb⟩; have HB1 := Aside0.mk (below_step HB0.out hb); have E1 := Aside0.mk (blk_below E0.out hb); have F1 := Aside0.mk (blk_below F0.out hb); clear hb; have x2 := (blk_cell F1.out 0).trans rfl) | (go_at_call 55; with_reducible refine (impl_isWord.calls a1 true _ ht2).mono ?_; rintro e w2 ⟨rfl, hb⟩; have HB2 := Aside0.mk (below_step HB1.out hb); have E2 := Aside0.mk (blk_below E1.out hb); have F2 := Aside0.mk (blk_below F1.out hb); clear hb) | (go_at_call 56; with_reducible refine (impl_isDay.calls a2 false _ ht3).mono ?_; rintro e w3 ⟨rfl, hd⟩; have hb := hd.below; clear hd; have HB3 := Aside0.mk (below_step HB2.out hb); have E3 := Aside0.mk (blk_below E2.out hb); have F3 := Aside0.mk (blk_below F2.out hb); clear hb))
    go_ret2
    exact ⟨_, rfl, Kd.S_nil _ _ _ _ _, HB3.out⟩
   | true =>
    rw [if_pos rfl] at h
    obtain ⟨t4, ht4, h⟩ := Option.bind_eq_some_iff.1 h
    cases t4 with
    | false =>
     rw [if_neg (by decide)] at h
     simp only [Option.some.injEq, Prod.mk.injEq] at h
     obtain ⟨rfl, rfl⟩ := h
     go_enter Tryd.func38, Tryd.ntmps38
     go_wp2_with (first | (go_at_call 21; with_reducible refine (impl_ArePermits.calls k _ _ l0 true _ ?s1 ?s2 ht1).mono ?_; (case s1 => exact Kd.C_below HR0.out HB0.out); (case s2 => exact hc0); rintro e w1 ⟨rfl, hb⟩; have HB1 := Aside0.mk (below_step HB0.out hb); have E1 := Aside0.mk (blk_below E0.out hb); have F1 := Aside0.mk (blk_below F0.out hb); clear hb; have x2 := (blk_cell F1.out 0).trans rfl) | (go_at_call 55; with_reducible refine (impl_isWord.calls a1 true _ ht2).mono ?_; rintro e w2 ⟨rfl, hb⟩; have HB2 := Aside0.mk (below_step HB1.out hb); have E2 := Aside0.mk (blk_below E1.out hb); have F2 := Aside0.mk (blk_below F1.out hb); clear hb) | (go_at_call 56; with_reducible refine (impl_isDay.calls a2 true _ ht3).mono ?_; rintro e w3 ⟨rfl, hd⟩; have hb := hd.below; clear hd; have HB3 := Aside0.mk (below_step HB2.out hb); have E3 := Aside0.mk (blk_below E2.out hb); have F3 := Aside0.mk (blk_below F2.out hb); clear hb) | (go_at_call 57; with_reducible refine (impl_within.calls a3 a2 999 false _ ht4).mono ?_; rintro e w4 ⟨rfl, hd⟩; have hb := hd.below; clear hd; have HB4 := Aside0.mk (below_step HB3.out hb); have E4 := Aside0.mk (blk_below E3.out hb); have F4 := Aside0.mk (blk_below F3.out hb); clear hb))
     go_ret2
     exact ⟨_, rfl, Kd.S_nil _ _ _ _ _, HB4.out⟩
    | true =>
     rw [if_pos rfl] at h
     obtain ⟨r, ht5, h⟩ := Option.bind_eq_some_iff.1 h
     simp only [Option.some.injEq, Prod.mk.injEq] at h
     obtain ⟨rfl, rfl⟩ := h
     go_enter Tryd.func38, Tryd.ntmps38
     go_wp2_with (first | (go_at_call 21; with_reducible refine (impl_ArePermits.calls k _ _ l0 true _ ?s1 ?s2 ht1).mono ?_; (case s1 => exact Kd.C_below HR0.out HB0.out); (case s2 => exact hc0); rintro e w1 ⟨rfl, hb⟩; have HB1 := Aside0.mk (below_step HB0.out hb); have E1 := Aside0.mk (blk_below E0.out hb); have F1 := Aside0.mk (blk_below F0.out hb); clear hb; have x2 := (blk_cell F1.out 0).trans rfl) | (go_at_call 55; with_reducible refine (impl_isWord.calls a1 true _ ht2).mono ?_; rintro e w2 ⟨rfl, hb⟩; have HB2 := Aside0.mk (below_step HB1.out hb); have E2 := Aside0.mk (blk_below E1.out hb); have F2 := Aside0.mk (blk_below F1.out hb); clear hb) | (go_at_call 56; with_reducible refine (impl_isDay.calls a2 true _ ht3).mono ?_; rintro e w3 ⟨rfl, hd⟩; have hb := hd.below; clear hd; have HB3 := Aside0.mk (below_step HB2.out hb); have E3 := Aside0.mk (blk_below E2.out hb); have F3 := Aside0.mk (blk_below F2.out hb); clear hb) | (go_at_call 57; with_reducible refine (impl_within.calls a3 a2 999 true _ ht4).mono ?_; rintro e w4 ⟨rfl, hd⟩; have hb := hd.below; clear hd; have HB4 := Aside0.mk (below_step HB3.out hb); have E4 := Aside0.mk (blk_below E3.out hb); have F4 := Aside0.mk (blk_below F3.out hb); clear hb) | (go_at_call 76; with_reducible refine (impl_spans.calls k a2 a3 A0 c0 l0 a1 _ _ ?s1 ?s2 ht5 (b1_ := w.heap.size) (b2_ := w.heap.size + 1) ?s3 ?s4).mono ?_; (case s1 => exact Kd.C_below HR0.out HB4.out); (case s2 => exact hc0); (case s3 => exact (blk_cell E4.out 0).trans rfl); (case s4 => exact (blk_cell F4.out 0).trans rfl); rintro e w5 ⟨v0_, rfl, hS, hb⟩; have HS := Aside0.mk hS; have HB5 := Aside0.mk (below_step HB4.out hb); clear hS hb))
     go_ret2
     exact ⟨_, rfl, Kd.S_lower HS.out (below_size HB4.out), HB5.out⟩

end Go.Proofs.YtgeioccfjgpijaaDoor.QFnPermitDays
