/- Contracts of Go functions that FnPermitDays reaches: the call computes what the plain function says. No condition. -/
import Derived.Test.YtgeioccfjgpijaaDoorQFnPermitDaysx0
namespace Go.Proofs.YtgeioccfjgpijaaDoor.QFnPermitDays
open Go.RowKit Go.Proofs.YtgeioccfjgpijaaDoorW.PrintWords Go.Proofs.YtgeioccfjgpijaaDoorW.PrintLast Go.Proofs.YtgeioccfjgpijaaDoorW.PrintMore
attribute [local go_sem] max2_int min2_int max_two min_two max_three min_three max_four min_four   -- for this text's walks alone
set_option linter.unusedVariables false
set_option linter.unusedSimpArgs false

/-! ### spec_l1In: function 67 -/
def spec_l1In.f (a0 a1 a2 : Int) : Option (Bool) := if a0 ≥ a1 then (some (decide (a0 ≤ a2))) else (some false)
set_option maxHeartbeats 8000000 in
set_option maxRecDepth 100000 in
theorem spec_l1In.calls (a0 a1 a2 : Int) (r : Bool) (w : World) (h : spec_l1In.f a0 a1 a2 = some r) :
  Calls Tryd.prog 67 #[.int .i64 a0, .int .i64 a1, .int .i64 a2] w fun e w' => e = .returned (.bool r) ∧ Drawn0 w w' := by
 have H := h
 clear h
 unfold spec_l1In.f at H
 replace H := ifD H
 rcases H with ⟨H, -, c4b0⟩ | ⟨H, -, c4b0⟩
 ·obtain rfl := Option.some.inj H
  go_enter Tryd.func67, Tryd.ntmps67
  go_wp2
  go_ret
  exact ⟨rB, by repeat (first | exact Drawn0.refl _ | apply Drawn0.step)⟩
 ·obtain rfl := Option.some.inj H
  go_enter Tryd.func67, Tryd.ntmps67
  go_wp2
  go_ret
  exact ⟨rB, by repeat (first | exact Drawn0.refl _ | apply Drawn0.step)⟩

/-! ### spec_l22Day: function 63 -/
def spec_l22Day.f (a0 : Int) : Option (Bool) := (spec_l1In.f a0 0 999).bind fun t101 => (some t101)
set_option maxHeartbeats 8000000 in
set_option maxRecDepth 100000 in
theorem spec_l22Day.calls (a0 : Int) (r : Bool) (w : World) (h : spec_l22Day.f a0 = some r) :
  Calls Tryd.prog 63 #[.int .i64 a0] w fun e w' => e = .returned (.bool r) ∧ Drawn0 w w' := by
 have H := h
 clear h
 unfold spec_l22Day.f at H
 replace H := bA H
 obtain ⟨t101, A2, H⟩ := H
 obtain rfl := Option.some.inj H
 go_enter Tryd.func63, Tryd.ntmps63
 go_wp2_with (first | ((with_reducible refine gC 67 ?_); refine lA (some 4) Tryd.func67 (spec_l1In.calls a0 0 999 t101 _ A2.out) ?_; rintro _ ⟨nd, rfl⟩))
 go_ret
 exact ⟨rB, by repeat (first | exact Drawn0.refl _ | apply Drawn0.step)⟩

/-! ### spec_l2Word: function 66 -/
def spec_l2Word.l0 : Nat → ByteArray → Int → Option (Bool)
 | 0, _, _ => none
 | k + 1, x0, x3 => if x3 < (x0.size : Int) then (if 0 ≤ x3 then (if (bt x0 x3) < 97 then (some false) else (if (bt x0 x3) > 122 then (some false) else (spec_l2Word.l0 k x0 (wrap64 (x3 + 1))))) else (none)) else ((spec_l1In.f (x0.size : Int) 1 10).bind fun t102 => (some t102))
def spec_l2Word.f (k : Nat) (a0 : ByteArray) : Option (Bool) := spec_l2Word.l0 k a0 0
theorem spec_l2Word.mono_l : ∀ k, (∀ y0 y1, LeO (spec_l2Word.l0 k y0 y1) (spec_l2Word.l0 (k + 1) y0 y1))
 | 0 => fun _ _ r h => by simp [spec_l2Word.l0] at h
 | k + 1 => by
  have ih0 := spec_l2Word.mono_l k
  ·intro y0 y1
   unfold spec_l2Word.l0
   repeat' with_reducible first | apply ih0 | exact LeO.refl _ | exact LeO.none _ | refine LeO.ite ?_ ?_ | refine LeO.bind ?_ (fun _ => ?_)
theorem spec_l2Word.mono : ∀ a0 k, LeO (spec_l2Word.f k a0) (spec_l2Word.f (k + 1) a0) := by
 intro a0 k
 have ih0 := spec_l2Word.mono_l k
 unfold spec_l2Word.f
 repeat' with_reducible first | apply ih0 | exact LeO.refl _ | exact LeO.none _ | refine LeO.ite ?_ ?_ | refine LeO.bind ?_ (fun _ => ?_)
set_option maxHeartbeats 8000000 in
set_option maxRecDepth 100000 in
theorem spec_l2Word.calls (k : Nat) (a0 : ByteArray) (r : Bool) (w : World) (h : spec_l2Word.f k a0 = some r) :
  Calls Tryd.prog 66 #[.string a0] w fun e w' => e = .returned (.bool r) ∧ Drawn0 w w' := by
 have H : (spec_l2Word.l0 k a0 0) = some r := h
 clear h
 have H' := Aside0.mk H
 clear H
 go_enter Tryd.func66, Tryd.ntmps66
 go_wp2
 go_loopg [3] k (fun kq v3 w' => ∃ (x3_1 : Int), v3 = .int .i64 x3_1 ∧ Aside0 (spec_l2Word.l0 kq a0 x3_1 = some r) ∧ Aside0 (kq ≤ k) ∧ Drawn0 w w')
 case atStart => exact ⟨(0), rB, H', ⟨Nat.le_refl _⟩, by repeat (first | exact Drawn0.refl _ | apply Drawn0.step)⟩
 case round =>
  clear H'
  obtain ⟨x3_1, rfl, HA, HK1, ⟨m1, rfl⟩⟩ := hrel
  cases gk with
  | zero => exact absurd HA.out (by simp [spec_l2Word.l0])
  | succ k1 =>
   have H := HA.out
   clear HA
   simp only [spec_l2Word.l0] at H
   replace H := ifD H
   rcases H with ⟨H, -, c2b0⟩ | ⟨H, -, c2b0⟩
   ·by_cases c3 : 0 ≤ x3_1
    ·rw [if_pos c3] at H
     have c3b0 : decide (0 ≤ x3_1) = true := decide_eq_true c3
     clear c3
     replace H := ifD H
     rcases H with ⟨H, -, c5b0⟩ | ⟨H, -, c5b0⟩
     ·obtain rfl := Option.some.inj H
      have p4 : 0 ≤ (x3_1 : Int) := of_decide_eq_true asmB
      have q4 : x3_1 < (a0.size : Int) := of_decide_eq_true asmB
      have hx4 := bt_at a0 x3_1
      replace p4 := eq_true p4
      replace q4 := eq_true q4
      go_wp2
      go_ret
      exact ⟨rB, by repeat (first | exact Drawn0.refl _ | apply Drawn0.step)⟩
     ·replace H := ifD H
      rcases H with ⟨H, -, c7b0⟩ | ⟨H, -, c7b0⟩
      ·obtain rfl := Option.some.inj H
       have p4 : 0 ≤ (x3_1 : Int) := of_decide_eq_true asmB
       have q4 : x3_1 < (a0.size : Int) := of_decide_eq_true asmB
       have hx4 := bt_at a0 x3_1
       replace p4 := eq_true p4
       replace q4 := eq_true q4
       have p6 : 0 ≤ (x3_1 : Int) := of_decide_eq_true asmB
       have q6 : x3_1 < (a0.size : Int) := of_decide_eq_true asmB
       have hx6 := bt_at a0 x3_1
       replace p6 := eq_true p6
       replace q6 := eq_true q6
       go_wp2
       go_ret
       exact ⟨rB, by repeat (first | exact Drawn0.refl _ | apply Drawn0.step)⟩
      ·have H' := Aside0.mk H
       clear H
       have p4 : 0 ≤ (x3_1 : Int) := of_decide_eq_true asmB
       have q4 : x3_1 < (a0.size : Int) := of_decide_eq_true asmB
       have hx4 := bt_at a0 x3_1
       replace p4 := eq_true p4
       replace q4 := eq_true q4
       have p6 : 0 ≤ (x3_1 : Int) := of_decide_eq_true asmB
       have q6 : x3_1 < (a0.size : Int) := of_decide_eq_true asmB
       have hx6 := bt_at a0 x3_1
       replace p6 := eq_true p6
       replace q6 := eq_true q6
       go_wp2
       go_roundg k1
       case measure => have := HK1.out; omega
       case rel => exact ⟨(wrap64 (x3_1 + 1)), rB, H', ⟨by have := HK1.out; omega⟩, by repeat (first | exact Drawn0.refl _ | apply Drawn0.step)⟩
    ·rw [if_neg c3] at H
     exact absurd H (by simp)
   ·replace H := bA H
    obtain ⟨t102, A8, H⟩ := H
    obtain rfl := Option.some.inj H
    go_wp2_with (first | ((with_reducible refine gC 67 ?_); refine lA (some 22) Tryd.func67 (spec_l1In.calls (a0.size : Int) 1 10 t102 _ A8.out) ?_; rintro _ ⟨nd, rfl⟩))
    go_ret
    exact ⟨rB, by repeat (first | exact Drawn0.refl _ | apply Drawn0.step)⟩

/-! ### spec_l22One: function 53 -/
def spec_l22One.f (k : Nat) (a0_0 : Int) (a0_1 : ByteArray) (a0_2 a0_3 a0_4 a0_5 : Int) : Option (Bool) := (spec_l1In.f a0_0 1 99).bind fun t104 => (if t104 = true then ((spec_l2Word.f k a0_1).bind fun t105 => (if t105 = true then ((spec_l22Day.f a0_2).bind fun t106 => (if t106 = true then ((spec_l1In.f a0_3 a0_2 999).bind fun t107 => (if t107 = true then ((spec_l1In.f a0_4 1 12).bind fun t108 => (if t108 = true then ((spec_l1In.f a0_5 0 4).bind fun t109 => (some t109)) else (some false))) else (some false))) else (some false))) else (some false))) else (some false))
theorem spec_l22One.mono : ∀ a0 a1 a2 a3 a4 a5 k, LeO (spec_l22One.f k a0 a1 a2 a3 a4 a5) (spec_l22One.f (k + 1) a0 a1 a2 a3 a4 a5) := by
 intro a0 a1 a2 a3 a4 a5 k
 unfold spec_l22One.f
 repeat' with_reducible first | apply spec_l2Word.mono | exact LeO.refl _ | exact LeO.none _ | refine LeO.ite ?_ ?_ | refine LeO.bind ?_ (fun _ => ?_)
set_option maxHeartbeats 8000000 in
set_option maxRecDepth 100000 in
theorem spec_l22One.calls (k : Nat) (a0_0 : Int) (a0_1 : ByteArray) (a0_2 a0_3 a0_4 a0_5 : Int) (r : Bool) (w : World) (h : spec_l22One.f k a0_0 a0_1 a0_2 a0_3 a0_4 a0_5 = some r) :
  Calls Tryd.prog 53 #[.agg #[.int .i64 a0_0, .string a0_1, .int .i64 a0_2, .int .i64 a0_3, .int .i64 a0_4, .int .i64 a0_5]] w fun e w' => e = .returned (.bool r) ∧ Below w.heap.size w w' := by
 have hu26 := Tryd.underlying26
 have HB := Aside0.mk (Below.refl w.heap.size w)
 have H := h
 clear h
 unfold spec_l22One.f at H
 replace H := bA H
 obtain ⟨t104, A2, H⟩ := H
 rcases Bool.eq_false_or_eq_true t104 with rfl | rfl
 ·replace H := iT rfl H
  replace H := bA H
  obtain ⟨t105, A4, H⟩ := H
  rcases Bool.eq_false_or_eq_true t105 with rfl | rfl
  ·replace H := iT rfl H
   replace H := bA H
   obtain ⟨t106, A6, H⟩ := H
   rcases Bool.eq_false_or_eq_true t106 with rfl | rfl
   ·replace H := iT rfl H
    replace H := bA H
    obtain ⟨t107, A8, H⟩ := H
    rcases Bool.eq_false_or_eq_true t107 with rfl | rfl
    ·replace H := iT rfl H
     replace H := bA H
     obtain ⟨t108, A10, H⟩ := H
     rcases Bool.eq_false_or_eq_true t108 with rfl | rfl
     ·replace H := iT rfl H
      replace H := bA H
      obtain ⟨t109, A12, H⟩ := H
      obtain rfl := Option.some.inj H
      go_enter Tryd.func53, Tryd.ntmps53
      go_wp2_with (first | ((with_reducible refine gD 1 ?_); refine bxE 1 26 #[.int .i64 a0_0, .string a0_1, .int .i64 a0_2, .int .i64 a0_3, .int .i64 a0_4, .int .i64 a0_5] fun gb103 w13 hg hbox hb => ?_; have BK103 := Aside0.mk hbox; have GE103 := gB HB hg; replace HB := uB HB hb; clear hb hbox hg; have hcz14_0 := ci BK103.out 0 a0_0 rfl; have hcz14_1 : w13.cell? ⟨gb103, 1, none⟩ = some (.string a0_1) := cb BK103 1; have hcz14_2 := ci BK103.out 2 a0_2 rfl; have hcz14_3 := ci BK103.out 3 a0_3 rfl; have hcz14_4 := ci BK103.out 4 a0_4 rfl; have hcz14_5 := ci BK103.out 5 a0_5 rfl; have hfz14_0 := fun j_ : Nat => blk_frozen BK103.out j_) | ((with_reducible refine gC 67 ?_); refine lA (some 5) Tryd.func67 (spec_l1In.calls a0_0 1 99 true _ A2.out) ?_; rintro _ ⟨nd, rfl⟩) | (go_at_call 66; (with_reducible refine (spec_l2Word.calls k a0_1 true _ A4.out).mono ?_); rintro e w' ⟨rfl, ⟨nd, rfl⟩⟩) | (go_at_call 63; (with_reducible refine (spec_l22Day.calls a0_2 true _ A6.out).mono ?_); rintro e w' ⟨rfl, ⟨nd, rfl⟩⟩) | (go_at_call 67; (with_reducible refine (spec_l1In.calls a0_3 a0_2 999 true _ A8.out).mono ?_); rintro e w' ⟨rfl, ⟨nd, rfl⟩⟩) | (go_at_call 67; (with_reducible refine (spec_l1In.calls a0_4 1 12 true _ A10.out).mono ?_); rintro e w' ⟨rfl, ⟨nd, rfl⟩⟩) | (go_at_call 67; (with_reducible refine (spec_l1In.calls a0_5 0 4 t109 _ A12.out).mono ?_); rintro e w' ⟨rfl, ⟨nd, rfl⟩⟩))
      go_ret
      exact ⟨eB, (bW HB)⟩
     ·replace H := iF (by decide) H
      obtain rfl := Option.some.inj H
      go_enter Tryd.func53, Tryd.ntmps53
      go_wp2_with (first | ((with_reducible refine gD 1 ?_); refine bxE 1 26 #[.int .i64 a0_0, .string a0_1, .int .i64 a0_2, .int .i64 a0_3, .int .i64 a0_4, .int .i64 a0_5] fun gb103 w15 hg hbox hb => ?_; have BK103 := Aside0.mk hbox; have GE103 := gB HB hg; replace HB := uB HB hb; clear hb hbox hg; have hcz16_0 := ci BK103.out 0 a0_0 rfl; have hcz16_1 : w15.cell? ⟨gb103, 1, none⟩ = some (.string a0_1) := cb BK103 1; have hcz16_2 := ci BK103.out 2 a0_2 rfl; have hcz16_3 := ci BK103.out 3 a0_3 rfl; have hcz16_4 := ci BK103.out 4 a0_4 rfl; have hcz16_5 := ci BK103.out 5 a0_5 rfl; have hfz16_0 := fun j_ : Nat => blk_frozen BK103.out j_) | ((with_reducible refine gC 67 ?_); refine lA (some 5) Tryd.func67 (spec_l1In.calls a0_0 1 99 true _ A2.out) ?_; rintro _ ⟨nd, rfl⟩) | (go_at_call 66; (with_reducible refine (spec_l2Word.calls k a0_1 true _ A4.out).mono ?_); rintro e w' ⟨rfl, ⟨nd, rfl⟩⟩) | (go_at_call 63; (with_reducible refine (spec_l22Day.calls a0_2 true _ A6.out).mono ?_); rintro e w' ⟨rfl, ⟨nd, rfl⟩⟩) | (go_at_call 67; (with_reducible refine (spec_l1In.calls a0_3 a0_2 999 true _ A8.out).mono ?_); rintro e w' ⟨rfl, ⟨nd, rfl⟩⟩) | (go_at_call 67; (with_reducible refine (spec_l1In.calls a0_4 1 12 false _ A10.out).mono ?_); rintro e w' ⟨rfl, ⟨nd, rfl⟩⟩))
      go_ret
      exact ⟨eB, (bW HB)⟩
    ·replace H := iF (by decide) H
     obtain rfl := Option.some.inj H
     go_enter Tryd.func53, Tryd.ntmps53
     go_wp2_with (first | ((with_reducible refine gD 1 ?_); refine bxE 1 26 #[.int .i64 a0_0, .string a0_1, .int .i64 a0_2, .int .i64 a0_3, .int .i64 a0_4, .int .i64 a0_5] fun gb103 w17 hg hbox hb => ?_; have BK103 := Aside0.mk hbox; have GE103 := gB HB hg; replace HB := uB HB hb; clear hb hbox hg; have hcz18_0 := ci BK103.out 0 a0_0 rfl; have hcz18_1 : w17.cell? ⟨gb103, 1, none⟩ = some (.string a0_1) := cb BK103 1; have hcz18_2 := ci BK103.out 2 a0_2 rfl; have hcz18_3 := ci BK103.out 3 a0_3 rfl; have hcz18_4 := ci BK103.out 4 a0_4 rfl; have hcz18_5 := ci BK103.out 5 a0_5 rfl; have hfz18_0 := fun j_ : Nat => blk_frozen BK103.out j_) | ((with_reducible refine gC 67 ?_); refine lA (some 5) Tryd.func67 (spec_l1In.calls a0_0 1 99 true _ A2.out) ?_; rintro _ ⟨nd, rfl⟩) | (go_at_call 66; (with_reducible refine (spec_l2Word.calls k a0_1 true _ A4.out).mono ?_); rintro e w' ⟨rfl, ⟨nd, rfl⟩⟩) | (go_at_call 63; (with_reducible refine (spec_l22Day.calls a0_2 true _ A6.out).mono ?_); rintro e w' ⟨rfl, ⟨nd, rfl⟩⟩) | (go_at_call 67; (with_reducible refine (spec_l1In.calls a0_3 a0_2 999 false _ A8.out).mono ?_); rintro e w' ⟨rfl, ⟨nd, rfl⟩⟩))
     go_ret
     exact ⟨eB, (bW HB)⟩
   ·replace H := iF (by decide) H
    obtain rfl := Option.some.inj H
    go_enter Tryd.func53, Tryd.ntmps53
    go_wp2_with (first | ((with_reducible refine gD 1 ?_); refine bxE 1 26 #[.int .i64 a0_0, .string a0_1, .int .i64 a0_2, .int .i64 a0_3, .int .i64 a0_4, .int .i64 a0_5] fun gb103 w19 hg hbox hb => ?_; have BK103 := Aside0.mk hbox; have GE103 := gB HB hg; replace HB := uB HB hb; clear hb hbox hg; have hcz20_0 := ci BK103.out 0 a0_0 rfl; have hcz20_1 : w19.cell? ⟨gb103, 1, none⟩ = some (.string a0_1) := cb BK103 1; have hcz20_2 := ci BK103.out 2 a0_2 rfl; have hcz20_3 := ci BK103.out 3 a0_3 rfl; have hcz20_4 := ci BK103.out 4 a0_4 rfl; have hcz20_5 := ci BK103.out 5 a0_5 rfl; have hfz20_0 := fun j_ : Nat => blk_frozen BK103.out j_) | ((with_reducible refine gC 67 ?_); refine lA (some 5) Tryd.func67 (spec_l1In.calls a0_0 1 99 true _ A2.out) ?_; rintro _ ⟨nd, rfl⟩) | (go_at_call 66; (with_reducible refine (spec_l2Word.calls k a0_1 true _ A4.out).mono ?_); rintro e w' ⟨rfl, ⟨nd, rfl⟩⟩) | (go_at_call 63; (with_reducible refine (spec_l22Day.calls a0_2 false _ A6.out).mono ?_); rintro e w' ⟨rfl, ⟨nd, rfl⟩⟩))
    go_ret
    exact ⟨eB, (bW HB)⟩
  ·replace H := iF (by decide) H
   obtain rfl := Option.some.inj H
   go_enter Tryd.func53, Tryd.ntmps53
   go_wp2_with (first | ((with_reducible refine gD 1 ?_); refine bxE 1 26 #[.int .i64 a0_0, .string a0_1, .int .i64 a0_2, .int .i64 a0_3, .int .i64 a0_4, .int .i64 a0_5] fun gb103 w21 hg hbox hb => ?_; have BK103 := Aside0.mk hbox; have GE103 := gB HB hg; replace HB := uB HB hb; clear hb hbox hg; have hcz22_0 := ci BK103.out 0 a0_0 rfl; have hcz22_1 : w21.cell? ⟨gb103, 1, none⟩ = some (.string a0_1) := cb BK103 1; have hcz22_2 := ci BK103.out 2 a0_2 rfl; have hcz22_3 := ci BK103.out 3 a0_3 rfl; have hcz22_4 := ci BK103.out 4 a0_4 rfl; have hcz22_5 := ci BK103.out 5 a0_5 rfl; have hfz22_0 := fun j_ : Nat => blk_frozen BK103.out j_) | ((with_reducible refine gC 67 ?_); refine lA (some 5) Tryd.func67 (spec_l1In.calls a0_0 1 99 true _ A2.out) ?_; rintro _ ⟨nd, rfl⟩) | (go_at_call 66; (with_reducible refine (spec_l2Word.calls k a0_1 false _ A4.out).mono ?_); rintro e w' ⟨rfl, ⟨nd, rfl⟩⟩))
   go_ret
   exact ⟨eB, (bW HB)⟩
 ·replace H := iF (by decide) H
  obtain rfl := Option.some.inj H
  go_enter Tryd.func53, Tryd.ntmps53
  go_wp2_with (first | ((with_reducible refine gD 1 ?_); refine bxE 1 26 #[.int .i64 a0_0, .string a0_1, .int .i64 a0_2, .int .i64 a0_3, .int .i64 a0_4, .int .i64 a0_5] fun gb103 w23 hg hbox hb => ?_; have BK103 := Aside0.mk hbox; have GE103 := gB HB hg; replace HB := uB HB hb; clear hb hbox hg; have hcz24_0 := ci BK103.out 0 a0_0 rfl; have hcz24_1 : w23.cell? ⟨gb103, 1, none⟩ = some (.string a0_1) := cb BK103 1; have hcz24_2 := ci BK103.out 2 a0_2 rfl; have hcz24_3 := ci BK103.out 3 a0_3 rfl; have hcz24_4 := ci BK103.out 4 a0_4 rfl; have hcz24_5 := ci BK103.out 5 a0_5 rfl; have hfz24_0 := fun j_ : Nat => blk_frozen BK103.out j_) | ((with_reducible refine gC 67 ?_); refine lA (some 5) Tryd.func67 (spec_l1In.calls a0_0 1 99 false _ A2.out) ?_; rintro _ ⟨nd, rfl⟩))
  go_ret
  exact ⟨eB, (bW HB)⟩

/-! ### spec_IsPermit: function 15 -/
def spec_IsPermit.f (k : Nat) (a0_0 : Int) (a0_1 : ByteArray) (a0_2 a0_3 a0_4 a0_5 : Int) : Option (Bool) := (spec_l22One.f k a0_0 a0_1 a0_2 a0_3 a0_4 a0_5).bind fun t111 => (some t111)
theorem spec_IsPermit.mono : ∀ a0 a1 a2 a3 a4 a5 k, LeO (spec_IsPermit.f k a0 a1 a2 a3 a4 a5) (spec_IsPermit.f (k + 1) a0 a1 a2 a3 a4 a5) := by
 intro a0 a1 a2 a3 a4 a5 k
 unfold spec_IsPermit.f
 repeat' with_reducible first | apply spec_l22One.mono | exact LeO.refl _ | exact LeO.none _ | refine LeO.ite ?_ ?_ | refine LeO.bind ?_ (fun _ => ?_)
set_option maxHeartbeats 8000000 in
set_option maxRecDepth 100000 in
theorem spec_IsPermit.calls (k : Nat) (a0_0 : Int) (a0_1 : ByteArray) (a0_2 a0_3 a0_4 a0_5 : Int) (r : Bool) (w : World) (h : spec_IsPermit.f k a0_0 a0_1 a0_2 a0_3 a0_4 a0_5 = some r) :
  Calls Tryd.prog 15 #[.agg #[.int .i64 a0_0, .string a0_1, .int .i64 a0_2, .int .i64 a0_3, .int .i64 a0_4, .int .i64 a0_5]] w fun e w' => e = .returned (.bool r) ∧ Below w.heap.size w w' := by
 have hu26 := Tryd.underlying26
 have HB := Aside0.mk (Below.refl w.heap.size w)
 have H := h
 clear h
 unfold spec_IsPermit.f at H
 replace H := bA H
 obtain ⟨t111, A2, H⟩ := H
 obtain rfl := Option.some.inj H
 go_enter Tryd.func15, Tryd.ntmps15
 go_wp2_with (first | ((with_reducible refine gD 1 ?_); refine bxE 1 26 #[.int .i64 a0_0, .string a0_1, .int .i64 a0_2, .int .i64 a0_3, .int .i64 a0_4, .int .i64 a0_5] fun gb110 w3 hg hbox hb => ?_; have BK110 := Aside0.mk hbox; have GE110 := gB HB hg; replace HB := uB HB hb; clear hb hbox hg; have hcz4_0 := ci BK110.out 0 a0_0 rfl; have hcz4_1 : w3.cell? ⟨gb110, 1, none⟩ = some (.string a0_1) := cb BK110 1; have hcz4_2 := ci BK110.out 2 a0_2 rfl; have hcz4_3 := ci BK110.out 3 a0_3 rfl; have hcz4_4 := ci BK110.out 4 a0_4 rfl; have hcz4_5 := ci BK110.out 5 a0_5 rfl; have hfz4_0 := fun j_ : Nat => blk_frozen BK110.out j_) | ((with_reducible refine gC 53 ?_); refine lA (some 4) Tryd.func53 (spec_l22One.calls k a0_0 a0_1 a0_2 a0_3 a0_4 a0_5 t111 _ A2.out) ?_; intro w5 hb; replace BK110 := uK BK110 hb; replace HB := uB HB hb; (try clear hb)))
 go_ret
 exact ⟨eB, (bW HB)⟩

/-! ### impl_within: function 57 -/
def impl_within.f (a0 a1 a2 : Int) : Option (Bool) := if a0 ≥ a1 then (some (decide (a0 ≤ a2))) else (some false)
set_option maxHeartbeats 8000000 in
set_option maxRecDepth 100000 in
theorem impl_within.calls (a0 a1 a2 : Int) (r : Bool) (w : World) (h : impl_within.f a0 a1 a2 = some r) :
  Calls Tryd.prog 57 #[.int .i64 a0, .int .i64 a1, .int .i64 a2] w fun e w' => e = .returned (.bool r) ∧ Drawn0 w w' := by
 have H := h
 clear h
 unfold impl_within.f at H
 replace H := ifD H
 rcases H with ⟨H, -, c4b0⟩ | ⟨H, -, c4b0⟩
 ·obtain rfl := Option.some.inj H
  go_enter Tryd.func57, Tryd.ntmps57
  go_wp2
  go_ret
  exact ⟨rB, by repeat (first | exact Drawn0.refl _ | apply Drawn0.step)⟩
 ·obtain rfl := Option.some.inj H
  go_enter Tryd.func57, Tryd.ntmps57
  go_wp2
  go_ret
  exact ⟨rB, by repeat (first | exact Drawn0.refl _ | apply Drawn0.step)⟩

/-! ### impl_isId: function 54 -/
def impl_isId.f (a0 : Int) : Option (Bool) := (impl_within.f a0 1 99).bind fun t112 => (some t112)
set_option maxHeartbeats 8000000 in
set_option maxRecDepth 100000 in
theorem impl_isId.calls (a0 : Int) (r : Bool) (w : World) (h : impl_isId.f a0 = some r) :
  Calls Tryd.prog 54 #[.int .i64 a0] w fun e w' => e = .returned (.bool r) ∧ Drawn0 w w' := by
 have H := h
 clear h
 unfold impl_isId.f at H
 replace H := bA H
 obtain ⟨t112, A2, H⟩ := H
 obtain rfl := Option.some.inj H
 go_enter Tryd.func54, Tryd.ntmps54
 go_wp2_with (first | ((with_reducible refine gC 57 ?_); refine lA (some 4) Tryd.func57 (impl_within.calls a0 1 99 t112 _ A2.out) ?_; rintro _ ⟨nd, rfl⟩))
 go_ret
 exact ⟨rB, by repeat (first | exact Drawn0.refl _ | apply Drawn0.step)⟩

/-! ### impl_isWord: function 55 -/
-- calls: none
def lower : List UInt8 := [97, 98, 99, 100, 101, 102, 103, 104, 105, 106, 107, 108, 109, 110, 111, 112, 113, 114, 115, 116, 117, 118, 119, 120, 121, 122]
theorem lower_mem (b : UInt8) : lower.contains b = decide (97 ≤ b.toNat ∧ b.toNat ≤ 122) := by
 have : ∀ n : Fin 256, lower.contains (UInt8.ofNat n.val) = decide (97 ≤ (UInt8.ofNat n.val).toNat ∧ (UInt8.ofNat n.val).toNat ≤ 122) := by decide +kernel
 have h := this ⟨b.toNat, b.toNat_lt⟩
 rwa [show UInt8.ofNat (Fin.mk b.toNat b.toNat_lt).val = b from UInt8.ofNat_toNat] at h
theorem dropWhile_nil {α : Type} (p : α → Bool) : ∀ l : List α, l.dropWhile p = [] ↔ ∀ x ∈ l, p x = true
 | [] => by simp
 | x :: l => by
  rw [List.dropWhile_cons]
  by_cases h : p x = true
  ·rw [if_pos h, dropWhile_nil p l]
   simp [h]
  ·rw [if_neg h]
   simp [h]
theorem trim_nil (l : List UInt8) : (Lib.trimS l lower).isEmpty = l.all (fun b => decide (97 ≤ b.toNat ∧ b.toNat ≤ 122)) := by
 have e : (fun b => lower.contains b) = (fun b : UInt8 => decide (97 ≤ b.toNat ∧ b.toNat ≤ 122)) := funext lower_mem
 unfold Lib.trimS Lib.trimLeftS Lib.trimRightS
 rw [e]
 generalize (fun b : UInt8 => decide (97 ≤ b.toNat ∧ b.toNat ≤ 122)) = p
 by_cases h : l.all p = true
 ·rw [h]
  have h1 : l.reverse.dropWhile p = [] := by
   rw [dropWhile_nil]; intro x hx; exact List.all_eq_true.1 h x (List.mem_reverse.1 hx)
  rw [h1]; rfl
 ·rw [Bool.eq_false_iff.2 h]
  rw [List.isEmpty_eq_false_iff]
  intro hn
  apply h
  rw [dropWhile_nil] at hn
  rw [List.all_eq_true]
  intro x hx
  by_cases hp : p x = true
  ·exact hp
  ·exfalso
   have hd : ∀ m : List UInt8, x ∈ m → x ∈ m.dropWhile p := by
    intro m
    induction m with
    | nil => intro h; cases h
    | cons y m ih =>
     intro hm
     rw [List.dropWhile_cons]
     split
     ·rename_i hy
      rcases List.mem_cons.1 hm with rfl | hm
      ·exact absurd hy hp
      ·exact ih hm
     ·exact hm
   exact hp (hn x (List.mem_reverse.2 (hd _ (List.mem_reverse.2 hx))))
def impl_isWord.f (a0 : ByteArray) : Option Bool := some (decide (1 ≤ a0.size) && (decide (a0.size ≤ 10) && a0.data.toList.all (fun b => decide (97 ≤ b.toNat ∧ b.toNat ≤ 122))))
set_option maxHeartbeats 8000000 in
set_option maxRecDepth 100000 in
theorem impl_isWord.calls (a0 : ByteArray) (r : Bool) (w : World) (h : impl_isWord.f a0 = some r) :
  Calls Tryd.prog 55 #[.string a0] w fun e w' => e = .returned (.bool r) ∧ Below w.heap.size w w' := by
 obtain rfl := Option.some.inj h
 by_cases c1 : 1 ≤ a0.size
 ·by_cases c2 : a0.size ≤ 10
  ·have hcon := Any.strings_Trim_laid Tryd.lays160 (by kernel_rfl) a0 ⟨lower.toArray⟩ w (by omega) (by decide) (ascii_of_all (by decide))
   change Calls Tryd.prog 90 _ _ (fun e w' => e = .returned (.string ⟨(Lib.trimS a0.data.toList lower).toArray⟩) ∧ Below w.heap.size w w') at hcon
   have ht := trim_nil a0.data.toList
   rw [decide_eq_true c1, decide_eq_true c2, Bool.true_and, Bool.true_and]
   rw [← ht]
   clear ht
   generalize Lib.trimS a0.data.toList lower = t at hcon ⊢
   go_enter Tryd.func55, Tryd.ntmps55
   go_wp2_with (go_at_call 90; refine hcon.mono ?_; rintro e w' ⟨rfl, hB⟩)
   go_ret
   exact ⟨rfl, hB⟩
  ·rw [decide_eq_true c1, decide_eq_false c2]
   go_enter Tryd.func55, Tryd.ntmps55
   go_wp2
   go_ret
   exact ⟨by simp, Below.refl _ _⟩
 ·rw [decide_eq_false c1]
  go_enter Tryd.func55, Tryd.ntmps55
  go_wp2
  go_ret
  exact ⟨by simp, Below.refl _ _⟩

/-! ### impl_isDay: function 56 -/
def impl_isDay.f (a0 : Int) : Option (Bool) := (impl_within.f a0 0 999).bind fun t113 => (some t113)
set_option maxHeartbeats 8000000 in
set_option maxRecDepth 100000 in
theorem impl_isDay.calls (a0 : Int) (r : Bool) (w : World) (h : impl_isDay.f a0 = some r) :
  Calls Tryd.prog 56 #[.int .i64 a0] w fun e w' => e = .returned (.bool r) ∧ Drawn0 w w' := by
 have H := h
 clear h
 unfold impl_isDay.f at H
 replace H := bA H
 obtain ⟨t113, A2, H⟩ := H
 obtain rfl := Option.some.inj H
 go_enter Tryd.func56, Tryd.ntmps56
 go_wp2_with (first | ((with_reducible refine gC 57 ?_); refine lA (some 4) Tryd.func57 (impl_within.calls a0 0 999 t113 _ A2.out) ?_; rintro _ ⟨nd, rfl⟩))
 go_ret
 exact ⟨rB, by repeat (first | exact Drawn0.refl _ | apply Drawn0.step)⟩

/-! ### impl_IsPermit: function 17 -/
def impl_IsPermit.f (a0_0 : Int) (a0_1 : ByteArray) (a0_2 a0_3 a0_4 a0_5 : Int) : Option (Bool) := (impl_isId.f a0_0).bind fun t115 => (if t115 = true then ((impl_isWord.f a0_1).bind fun t116 => (if t116 = true then ((impl_isDay.f a0_2).bind fun t117 => (if t117 = true then ((impl_within.f a0_3 a0_2 999).bind fun t118 => (if t118 = true then ((impl_within.f a0_4 1 12).bind fun t119 => (if t119 = true then ((impl_within.f a0_5 0 4).bind fun t120 => (some t120)) else (some false))) else (some false))) else (some false))) else (some false))) else (some false))
set_option maxHeartbeats 8000000 in
set_option maxRecDepth 100000 in
theorem impl_IsPermit.calls (a0_0 : Int) (a0_1 : ByteArray) (a0_2 a0_3 a0_4 a0_5 : Int) (r : Bool) (w : World) (h : impl_IsPermit.f a0_0 a0_1 a0_2 a0_3 a0_4 a0_5 = some r) :
  Calls Tryd.prog 17 #[.agg #[.int .i64 a0_0, .string a0_1, .int .i64 a0_2, .int .i64 a0_3, .int .i64 a0_4, .int .i64 a0_5]] w fun e w' => e = .returned (.bool r) ∧ Below w.heap.size w w' := by
 have hu26 := Tryd.underlying26
 have HB := Aside0.mk (Below.refl w.heap.size w)
 have H := h
 clear h
 unfold impl_IsPermit.f at H
 replace H := bA H
 obtain ⟨t115, A2, H⟩ := H
 rcases Bool.eq_false_or_eq_true t115 with rfl | rfl
 ·replace H := iT rfl H
  replace H := bA H
  obtain ⟨t116, A4, H⟩ := H
  rcases Bool.eq_false_or_eq_true t116 with rfl | rfl
  ·replace H := iT rfl H
   replace H := bA H
   obtain ⟨t117, A6, H⟩ := H
   rcases Bool.eq_false_or_eq_true t117 with rfl | rfl
   ·replace H := iT rfl H
    replace H := bA H
    obtain ⟨t118, A8, H⟩ := H
    rcases Bool.eq_false_or_eq_true t118 with rfl | rfl
    ·replace H := iT rfl H
     replace H := bA H
     obtain ⟨t119, A10, H⟩ := H
     rcases Bool.eq_false_or_eq_true t119 with rfl | rfl
     ·replace H := iT rfl H
      replace H := bA H
      obtain ⟨t120, A12, H⟩ := H
      obtain rfl := Option.some.inj H
      go_enter Tryd.func17, Tryd.ntmps17
      go_wp2_with (first | ((with_reducible refine gD 1 ?_); refine bxE 1 26 #[.int .i64 a0_0, .string a0_1, .int .i64 a0_2, .int .i64 a0_3, .int .i64 a0_4, .int .i64 a0_5] fun gb114 w13 hg hbox hb => ?_; have BK114 := Aside0.mk hbox; have GE114 := gB HB hg; replace HB := uB HB hb; clear hb hbox hg; have hcz14_0 := ci BK114.out 0 a0_0 rfl; have hcz14_1 : w13.cell? ⟨gb114, 1, none⟩ = some (.string a0_1) := cb BK114 1; have hcz14_2 := ci BK114.out 2 a0_2 rfl; have hcz14_3 := ci BK114.out 3 a0_3 rfl; have hcz14_4 := ci BK114.out 4 a0_4 rfl; have hcz14_5 := ci BK114.out 5 a0_5 rfl; have hfz14_0 := fun j_ : Nat => blk_frozen BK114.out j_) | ((with_reducible refine gC 54 ?_); refine lA (some 5) Tryd.func54 (impl_isId.calls a0_0 true _ A2.out) ?_; rintro _ ⟨nd, rfl⟩) | (go_at_call 55; (with_reducible refine (impl_isWord.calls a0_1 true _ A4.out).mono ?_); rintro e w15 ⟨rfl, hb⟩; replace BK114 := uK BK114 hb; replace HB := uB HB hb; (try clear hb); have hcz16_0 := ci BK114.out 0 a0_0 rfl; have hcz16_1 : w15.cell? ⟨gb114, 1, none⟩ = some (.string a0_1) := cb BK114 1; have hcz16_2 := ci BK114.out 2 a0_2 rfl; have hcz16_3 := ci BK114.out 3 a0_3 rfl; have hcz16_4 := ci BK114.out 4 a0_4 rfl; have hcz16_5 := ci BK114.out 5 a0_5 rfl; have hfz16_0 := fun j_ : Nat => blk_frozen BK114.out j_) | (go_at_call 56; (with_reducible refine (impl_isDay.calls a0_2 true _ A6.out).mono ?_); rintro e w' ⟨rfl, ⟨nd, rfl⟩⟩) | (go_at_call 57; (with_reducible refine (impl_within.calls a0_3 a0_2 999 true _ A8.out).mono ?_); rintro e w' ⟨rfl, ⟨nd, rfl⟩⟩) | (go_at_call 57; (with_reducible refine (impl_within.calls a0_4 1 12 true _ A10.out).mono ?_); rintro e w' ⟨rfl, ⟨nd, rfl⟩⟩) | (go_at_call 57; (with_reducible refine (impl_within.calls a0_5 0 4 t120 _ A12.out).mono ?_); rintro e w' ⟨rfl, ⟨nd, rfl⟩⟩))
      go_ret
      exact ⟨eB, (bW HB)⟩
     ·replace H := iF (by decide) H
      obtain rfl := Option.some.inj H
      go_enter Tryd.func17, Tryd.ntmps17
      go_wp2_with (first | ((with_reducible refine gD 1 ?_); refine bxE 1 26 #[.int .i64 a0_0, .string a0_1, .int .i64 a0_2, .int .i64 a0_3, .int .i64 a0_4, .int .i64 a0_5] fun gb114 w17 hg hbox hb => ?_; have BK114 := Aside0.mk hbox; have GE114 := gB HB hg; replace HB := uB HB hb; clear hb hbox hg; have hcz18_0 := ci BK114.out 0 a0_0 rfl; have hcz18_1 : w17.cell? ⟨gb114, 1, none⟩ = some (.string a0_1) := cb BK114 1; have hcz18_2 := ci BK114.out 2 a0_2 rfl; have hcz18_3 := ci BK114.out 3 a0_3 rfl; have hcz18_4 := ci BK114.out 4 a0_4 rfl; have hcz18_5 := ci BK114.out 5 a0_5 rfl; have hfz18_0 := fun j_ : Nat => blk_frozen BK114.out j_) | ((with_reducible refine gC 54 ?_); refine lA (some 5) Tryd.func54 (impl_isId.calls a0_0 true _ A2.out) ?_; rintro _ ⟨nd, rfl⟩) | (go_at_call 55; (with_reducible refine (impl_isWord.calls a0_1 true _ A4.out).mono ?_); rintro e w19 ⟨rfl, hb⟩; replace BK114 := uK BK114 hb; replace HB := uB HB hb; (try clear hb); have hcz20_0 := ci BK114.out 0 a0_0 rfl; have hcz20_1 : w19.cell? ⟨gb114, 1, none⟩ = some (.string a0_1) := cb BK114 1; have hcz20_2 := ci BK114.out 2 a0_2 rfl; have hcz20_3 := ci BK114.out 3 a0_3 rfl; have hcz20_4 := ci BK114.out 4 a0_4 rfl; have hcz20_5 := ci BK114.out 5 a0_5 rfl; have hfz20_0 := fun j_ : Nat => blk_frozen BK114.out j_) | (go_at_call 56; (with_reducible refine (impl_isDay.calls a0_2 true _ A6.out).mono ?_); rintro e w' ⟨rfl, ⟨nd, rfl⟩⟩) | (go_at_call 57; (with_reducible refine (impl_within.calls a0_3 a0_2 999 true _ A8.out).mono ?_); rintro e w' ⟨rfl, ⟨nd, rfl⟩⟩) | (go_at_call 57; (with_reducible refine (impl_within.calls a0_4 1 12 false _ A10.out).mono ?_); rintro e w' ⟨rfl, ⟨nd, rfl⟩⟩))
      go_ret
      exact ⟨eB, (bW HB)⟩
    ·replace H := iF (by decide) H
     obtain rfl := Option.some.inj H
     go_enter Tryd.func17, Tryd.ntmps17
     go_wp2_with (first | ((with_reducible refine gD 1 ?_); refine bxE 1 26 #[.int .i64 a0_0, .string a0_1, .int .i64 a0_2, .int .i64 a0_3, .int .i64 a0_4, .int .i64 a0_5] fun gb114 w21 hg hbox hb => ?_; have BK114 := Aside0.mk hbox; have GE114 := gB HB hg; replace HB := uB HB hb; clear hb hbox hg; have hcz22_0 := ci BK114.out 0 a0_0 rfl; have hcz22_1 : w21.cell? ⟨gb114, 1, none⟩ = some (.string a0_1) := cb BK114 1; have hcz22_2 := ci BK114.out 2 a0_2 rfl; have hcz22_3 := ci BK114.out 3 a0_3 rfl; have hcz22_4 := ci BK114.out 4 a0_4 rfl; have hcz22_5 := ci BK114.out 5 a0_5 rfl; have hfz22_0 := fun j_ : Nat => blk_frozen BK114.out j_) | ((with_reducible refine gC 54 ?_); refine lA (some 5) Tryd.func54 (impl_isId.calls a0_0 true _ A2.out) ?_; rintro _ ⟨nd, rfl⟩) | (go_at_call 55; (with_reducible refine (impl_isWord.calls a0_1 true _ A4.out).mono ?_); rintro e w23 ⟨rfl, hb⟩; replace BK114 := uK BK114 hb; replace HB := uB HB hb; (try clear hb); have hcz24_0 := ci BK114.out 0 a0_0 rfl; have hcz24_1 : w23.cell? ⟨gb114, 1, none⟩ = some (.string a0_1) := cb BK114 1; have hcz24_2 := ci BK114.out 2 a0_2 rfl; have hcz24_3 := ci BK114.out 3 a0_3 rfl; have hcz24_4 := ci BK114.out 4 a0_4 rfl; have hcz24_5 := ci BK114.out 5 a0_5 rfl; have hfz24_0 := fun j_ : Nat => blk_frozen BK114.out j_) | (go_at_call 56; (with_reducible refine (impl_isDay.calls a0_2 true _ A6.out).mono ?_); rintro e w' ⟨rfl, ⟨nd, rfl⟩⟩) | (go_at_call 57; (with_reducible refine (impl_within.calls a0_3 a0_2 999 false _ A8.out).mono ?_); rintro e w' ⟨rfl, ⟨nd, rfl⟩⟩))
     go_ret
     exact ⟨eB, (bW HB)⟩
   ·replace H := iF (by decide) H
    obtain rfl := Option.some.inj H
    go_enter Tryd.func17, Tryd.ntmps17
    go_wp2_with (first | ((with_reducible refine gD 1 ?_); refine bxE 1 26 #[.int .i64 a0_0, .string a0_1, .int .i64 a0_2, .int .i64 a0_3, .int .i64 a0_4, .int .i64 a0_5] fun gb114 w25 hg hbox hb => ?_; have BK114 := Aside0.mk hbox; have GE114 := gB HB hg; replace HB := uB HB hb; clear hb hbox hg; have hcz26_0 := ci BK114.out 0 a0_0 rfl; have hcz26_1 : w25.cell? ⟨gb114, 1, none⟩ = some (.string a0_1) := cb BK114 1; have hcz26_2 := ci BK114.out 2 a0_2 rfl; have hcz26_3 := ci BK114.out 3 a0_3 rfl; have hcz26_4 := ci BK114.out 4 a0_4 rfl; have hcz26_5 := ci BK114.out 5 a0_5 rfl; have hfz26_0 := fun j_ : Nat => blk_frozen BK114.out j_) | ((with_reducible refine gC 54 ?_); refine lA (some 5) Tryd.func54 (impl_isId.calls a0_0 true _ A2.out) ?_; rintro _ ⟨nd, rfl⟩) | (go_at_call 55; (with_reducible refine (impl_isWord.calls a0_1 true _ A4.out).mono ?_); rintro e w27 ⟨rfl, hb⟩; replace BK114 := uK BK114 hb; replace HB := uB HB hb; (try clear hb); have hcz28_0 := ci BK114.out 0 a0_0 rfl; have hcz28_1 : w27.cell? ⟨gb114, 1, none⟩ = some (.string a0_1) := cb BK114 1; have hcz28_2 := ci BK114.out 2 a0_2 rfl; have hcz28_3 := ci BK114.out 3 a0_3 rfl; have hcz28_4 := ci BK114.out 4 a0_4 rfl; have hcz28_5 := ci BK114.out 5 a0_5 rfl; have hfz28_0 := fun j_ : Nat => blk_frozen BK114.out j_) | (go_at_call 56; (with_reducible refine (impl_isDay.calls a0_2 false _ A6.out).mono ?_); rintro e w' ⟨rfl, ⟨nd, rfl⟩⟩))
    go_ret
    exact ⟨eB, (bW HB)⟩
  ·replace H := iF (by decide) H
   obtain rfl := Option.some.inj H
   go_enter Tryd.func17, Tryd.ntmps17
   go_wp2_with (first | ((with_reducible refine gD 1 ?_); refine bxE 1 26 #[.int .i64 a0_0, .string a0_1, .int .i64 a0_2, .int .i64 a0_3, .int .i64 a0_4, .int .i64 a0_5] fun gb114 w29 hg hbox hb => ?_; have BK114 := Aside0.mk hbox; have GE114 := gB HB hg; replace HB := uB HB hb; clear hb hbox hg; have hcz30_0 := ci BK114.out 0 a0_0 rfl; have hcz30_1 : w29.cell? ⟨gb114, 1, none⟩ = some (.string a0_1) := cb BK114 1; have hcz30_2 := ci BK114.out 2 a0_2 rfl; have hcz30_3 := ci BK114.out 3 a0_3 rfl; have hcz30_4 := ci BK114.out 4 a0_4 rfl; have hcz30_5 := ci BK114.out 5 a0_5 rfl; have hfz30_0 := fun j_ : Nat => blk_frozen BK114.out j_) | ((with_reducible refine gC 54 ?_); refine lA (some 5) Tryd.func54 (impl_isId.calls a0_0 true _ A2.out) ?_; rintro _ ⟨nd, rfl⟩) | (go_at_call 55; (with_reducible refine (impl_isWord.calls a0_1 false _ A4.out).mono ?_); rintro e w31 ⟨rfl, hb⟩; replace BK114 := uK BK114 hb; replace HB := uB HB hb; (try clear hb)))
   go_ret
   exact ⟨eB, (bW HB)⟩
 ·replace H := iF (by decide) H
  obtain rfl := Option.some.inj H
  go_enter Tryd.func17, Tryd.ntmps17
  go_wp2_with (first | ((with_reducible refine gD 1 ?_); refine bxE 1 26 #[.int .i64 a0_0, .string a0_1, .int .i64 a0_2, .int .i64 a0_3, .int .i64 a0_4, .int .i64 a0_5] fun gb114 w32 hg hbox hb => ?_; have BK114 := Aside0.mk hbox; have GE114 := gB HB hg; replace HB := uB HB hb; clear hb hbox hg; have hcz33_0 := ci BK114.out 0 a0_0 rfl; have hcz33_1 : w32.cell? ⟨gb114, 1, none⟩ = some (.string a0_1) := cb BK114 1; have hcz33_2 := ci BK114.out 2 a0_2 rfl; have hcz33_3 := ci BK114.out 3 a0_3 rfl; have hcz33_4 := ci BK114.out 4 a0_4 rfl; have hcz33_5 := ci BK114.out 5 a0_5 rfl; have hfz33_0 := fun j_ : Nat => blk_frozen BK114.out j_) | ((with_reducible refine gC 54 ?_); refine lA (some 5) Tryd.func54 (impl_isId.calls a0_0 false _ A2.out) ?_; rintro _ ⟨nd, rfl⟩))
  go_ret
  exact ⟨eB, (bW HB)⟩

-- NOT PRINTED: function 92 (impl_Permit_92)

-- NOT PRINTED: function 59 (impl_Permit_59)

/-! ### impl_Permit_counts: function 72 -/
def impl_Permit_counts.f (a0_0 : Int) (a0_1 : ByteArray) (a0_2 a0_3 a0_4 a0_5 : Int) : Option (Bool) := if a0_5 = 1 then (some true) else (some (a0_5 == 3))
set_option maxHeartbeats 8000000 in
set_option maxRecDepth 100000 in
theorem impl_Permit_counts.calls (a0_0 : Int) (a0_1 : ByteArray) (a0_2 a0_3 a0_4 a0_5 : Int) (r : Bool) (w : World) (h : impl_Permit_counts.f a0_0 a0_1 a0_2 a0_3 a0_4 a0_5 = some r) :
  Calls Tryd.prog 72 #[.agg #[.int .i64 a0_0, .string a0_1, .int .i64 a0_2, .int .i64 a0_3, .int .i64 a0_4, .int .i64 a0_5]] w fun e w' => e = .returned (.bool r) ∧ Below w.heap.size w w' := by
 have hu26 := Tryd.underlying26
 have HB := Aside0.mk (Below.refl w.heap.size w)
 have H := h
 clear h
 unfold impl_Permit_counts.f at H
 replace H := ifI H
 rcases H with ⟨H, -, c2b0, c2b1⟩ | ⟨H, c2, c2b0, c2b1⟩
 ·obtain rfl := Option.some.inj H
  go_enter Tryd.func72, Tryd.ntmps72
  go_wp2_with (first | ((with_reducible refine gD 1 ?_); refine bxE 1 26 #[.int .i64 a0_0, .string a0_1, .int .i64 a0_2, .int .i64 a0_3, .int .i64 a0_4, .int .i64 a0_5] fun gb121 w3 hg hbox hb => ?_; have BK121 := Aside0.mk hbox; have GE121 := gB HB hg; replace HB := uB HB hb; clear hb hbox hg; have hcz4_0 := ci BK121.out 0 a0_0 rfl; have hcz4_1 : w3.cell? ⟨gb121, 1, none⟩ = some (.string a0_1) := cb BK121 1; have hcz4_2 := ci BK121.out 2 a0_2 rfl; have hcz4_3 := ci BK121.out 3 a0_3 rfl; have hcz4_4 := ci BK121.out 4 a0_4 rfl; have hcz4_5 := ci BK121.out 5 a0_5 rfl; have hfz4_0 := fun j_ : Nat => blk_frozen BK121.out j_))
  go_ret
  exact ⟨eB, (bW HB)⟩
 ·obtain rfl := Option.some.inj H
  go_enter Tryd.func72, Tryd.ntmps72
  go_wp2_with (first | ((with_reducible refine gD 1 ?_); refine bxE 1 26 #[.int .i64 a0_0, .string a0_1, .int .i64 a0_2, .int .i64 a0_3, .int .i64 a0_4, .int .i64 a0_5] fun gb121 w5 hg hbox hb => ?_; have BK121 := Aside0.mk hbox; have GE121 := gB HB hg; replace HB := uB HB hb; clear hb hbox hg; have hcz6_0 := ci BK121.out 0 a0_0 rfl; have hcz6_1 : w5.cell? ⟨gb121, 1, none⟩ = some (.string a0_1) := cb BK121 1; have hcz6_2 := ci BK121.out 2 a0_2 rfl; have hcz6_3 := ci BK121.out 3 a0_3 rfl; have hcz6_4 := ci BK121.out 4 a0_4 rfl; have hcz6_5 := ci BK121.out 5 a0_5 rfl; have hfz6_0 := fun j_ : Nat => blk_frozen BK121.out j_))
  go_ret
  exact ⟨eB, (bW HB)⟩

/-! ### impl_conflict: function 61 -/
def impl_conflict.f (a0_0 : Int) (a0_1 : ByteArray) (a0_2 a0_3 a0_4 a0_5 a1_0 : Int) (a1_1 : ByteArray) (a1_2 a1_3 a1_4 a1_5 : Int) : Option (Bool) := (impl_Permit_counts.f a0_0 a0_1 a0_2 a0_3 a0_4 a0_5).bind fun t124 => (if t124 = true then ((impl_Permit_counts.f a1_0 a1_1 a1_2 a1_3 a1_4 a1_5).bind fun t125 => (if t125 = true then (if a0_1.toList = a1_1.toList then (if a0_2 ≤ a1_3 then (some (decide (a1_2 ≤ a0_3))) else (some false)) else (some false)) else (some false))) else (some false))
set_option maxHeartbeats 8000000 in
set_option maxRecDepth 100000 in
theorem impl_conflict.calls (a0_0 : Int) (a0_1 : ByteArray) (a0_2 a0_3 a0_4 a0_5 a1_0 : Int) (a1_1 : ByteArray) (a1_2 a1_3 a1_4 a1_5 : Int) (r : Bool) (w : World) (h : impl_conflict.f a0_0 a0_1 a0_2 a0_3 a0_4 a0_5 a1_0 a1_1 a1_2 a1_3 a1_4 a1_5 = some r) :
  Calls Tryd.prog 61 #[.agg #[.int .i64 a0_0, .string a0_1, .int .i64 a0_2, .int .i64 a0_3, .int .i64 a0_4, .int .i64 a0_5], .agg #[.int .i64 a1_0, .string a1_1, .int .i64 a1_2, .int .i64 a1_3, .int .i64 a1_4, .int .i64 a1_5]] w fun e w' => e = .returned (.bool r) ∧ Below w.heap.size w w' := by
 have hu26 := Tryd.underlying26
 have HB := Aside0.mk (Below.refl w.heap.size w)
 have H := h
 clear h
 unfold impl_conflict.f at H
 replace H := bA H
 obtain ⟨t124, A3, H⟩ := H
 rcases Bool.eq_false_or_eq_true t124 with rfl | rfl
 ·replace H := iT rfl H
  replace H := bA H
  obtain ⟨t125, A5, H⟩ := H
  rcases Bool.eq_false_or_eq_true t125 with rfl | rfl
  ·replace H := iT rfl H
   replace H := ifI H
   rcases H with ⟨H, -, c7b0, c7b1⟩ | ⟨H, c7, c7b0, c7b1⟩
   ·replace H := ifD H
    rcases H with ⟨H, -, c8b0⟩ | ⟨H, -, c8b0⟩
    ·obtain rfl := Option.some.inj H
     go_enter Tryd.func61, Tryd.ntmps61
     go_wp2_with (first | ((with_reducible refine gD 2 ?_); refine bxE 2 26 #[.int .i64 a0_0, .string a0_1, .int .i64 a0_2, .int .i64 a0_3, .int .i64 a0_4, .int .i64 a0_5] fun gb122 w9 hg hbox hb => ?_; have BK122 := Aside0.mk hbox; have GE122 := gB HB hg; replace HB := uB HB hb; clear hb hbox hg) | ((with_reducible refine gD 3 ?_); refine bxE 3 26 #[.int .i64 a1_0, .string a1_1, .int .i64 a1_2, .int .i64 a1_3, .int .i64 a1_4, .int .i64 a1_5] fun gb123 w10 hg hbox hb => ?_; have BK123 := Aside0.mk hbox; have GE123 := gB HB hg; have ⟨NB122_123, NB123_122⟩ := nB BK122 hg; replace BK122 := uK BK122 hb; replace HB := uB HB hb; clear hb hbox hg; have hnb11 := NB122_123.out; have hnc11 := NB123_122.out; have hcz12_0 := ci BK122.out 0 a0_0 rfl; have hcz12_1 : w10.cell? ⟨gb122, 1, none⟩ = some (.string a0_1) := cb BK122 1; have hcz12_2 := ci BK122.out 2 a0_2 rfl; have hcz12_3 := ci BK122.out 3 a0_3 rfl; have hcz12_4 := ci BK122.out 4 a0_4 rfl; have hcz12_5 := ci BK122.out 5 a0_5 rfl; have hfz12_0 := fun j_ : Nat => blk_frozen BK122.out j_) | ((with_reducible refine gC 72 ?_); refine lA (some 6) Tryd.func72 (impl_Permit_counts.calls a0_0 a0_1 a0_2 a0_3 a0_4 a0_5 true _ A3.out) ?_; intro w13 hb; replace BK122 := uK BK122 hb; replace BK123 := uK BK123 hb; replace HB := uB HB hb; (try clear hb); have hcz14_0 := ci BK123.out 0 a1_0 rfl; have hcz14_1 : w13.cell? ⟨gb123, 1, none⟩ = some (.string a1_1) := cb BK123 1; have hcz14_2 := ci BK123.out 2 a1_2 rfl; have hcz14_3 := ci BK123.out 3 a1_3 rfl; have hcz14_4 := ci BK123.out 4 a1_4 rfl; have hcz14_5 := ci BK123.out 5 a1_5 rfl; have hfz14_0 := fun j_ : Nat => blk_frozen BK123.out j_) | (go_at_call 72; (with_reducible refine (impl_Permit_counts.calls a1_0 a1_1 a1_2 a1_3 a1_4 a1_5 true _ A5.out).mono ?_); rintro e w15 ⟨rfl, hb⟩; replace BK122 := uK BK122 hb; replace BK123 := uK BK123 hb; replace HB := uB HB hb; (try clear hb); have hcz16_0 := ci BK122.out 0 a0_0 rfl; have hcz16_1 : w15.cell? ⟨gb122, 1, none⟩ = some (.string a0_1) := cb BK122 1; have hcz16_2 := ci BK122.out 2 a0_2 rfl; have hcz16_3 := ci BK122.out 3 a0_3 rfl; have hcz16_4 := ci BK122.out 4 a0_4 rfl; have hcz16_5 := ci BK122.out 5 a0_5 rfl; have hfz16_0 := fun j_ : Nat => blk_frozen BK122.out j_; have hcz17_0 := ci BK123.out 0 a1_0 rfl; have hcz17_1 : w15.cell? ⟨gb123, 1, none⟩ = some (.string a1_1) := cb BK123 1; have hcz17_2 := ci BK123.out 2 a1_2 rfl; have hcz17_3 := ci BK123.out 3 a1_3 rfl; have hcz17_4 := ci BK123.out 4 a1_4 rfl; have hcz17_5 := ci BK123.out 5 a1_5 rfl; have hfz17_0 := fun j_ : Nat => blk_frozen BK123.out j_))
     go_ret
     exact ⟨eB, (bW HB)⟩
    ·obtain rfl := Option.some.inj H
     go_enter Tryd.func61, Tryd.ntmps61
     go_wp2_with (first | ((with_reducible refine gD 2 ?_); refine bxE 2 26 #[.int .i64 a0_0, .string a0_1, .int .i64 a0_2, .int .i64 a0_3, .int .i64 a0_4, .int .i64 a0_5] fun gb122 w18 hg hbox hb => ?_; have BK122 := Aside0.mk hbox; have GE122 := gB HB hg; replace HB := uB HB hb; clear hb hbox hg) | ((with_reducible refine gD 3 ?_); refine bxE 3 26 #[.int .i64 a1_0, .string a1_1, .int .i64 a1_2, .int .i64 a1_3, .int .i64 a1_4, .int .i64 a1_5] fun gb123 w19 hg hbox hb => ?_; have BK123 := Aside0.mk hbox; have GE123 := gB HB hg; have ⟨NB122_123, NB123_122⟩ := nB BK122 hg; replace BK122 := uK BK122 hb; replace HB := uB HB hb; clear hb hbox hg; have hnb20 := NB122_123.out; have hnc20 := NB123_122.out; have hcz21_0 := ci BK122.out 0 a0_0 rfl; have hcz21_1 : w19.cell? ⟨gb122, 1, none⟩ = some (.string a0_1) := cb BK122 1; have hcz21_2 := ci BK122.out 2 a0_2 rfl; have hcz21_3 := ci BK122.out 3 a0_3 rfl; have hcz21_4 := ci BK122.out 4 a0_4 rfl; have hcz21_5 := ci BK122.out 5 a0_5 rfl; have hfz21_0 := fun j_ : Nat => blk_frozen BK122.out j_) | ((with_reducible refine gC 72 ?_); refine lA (some 6) Tryd.func72 (impl_Permit_counts.calls a0_0 a0_1 a0_2 a0_3 a0_4 a0_5 true _ A3.out) ?_; intro w22 hb; replace BK122 := uK BK122 hb; replace BK123 := uK BK123 hb; replace HB := uB HB hb; (try clear hb); have hcz23_0 := ci BK123.out 0 a1_0 rfl; have hcz23_1 : w22.cell? ⟨gb123, 1, none⟩ = some (.string a1_1) := cb BK123 1; have hcz23_2 := ci BK123.out 2 a1_2 rfl; have hcz23_3 := ci BK123.out 3 a1_3 rfl; have hcz23_4 := ci BK123.out 4 a1_4 rfl; have hcz23_5 := ci BK123.out 5 a1_5 rfl; have hfz23_0 := fun j_ : Nat => blk_frozen BK123.out j_) | (go_at_call 72; (with_reducible refine (impl_Permit_counts.calls a1_0 a1_1 a1_2 a1_3 a1_4 a1_5 true _ A5.out).mono ?_); rintro e w24 ⟨rfl, hb⟩; replace BK122 := uK BK122 hb; replace BK123 := uK BK123 hb; replace HB := uB HB hb; (try clear hb); have hcz25_0 := ci BK122.out 0 a0_0 rfl; have hcz25_1 : w24.cell? ⟨gb122, 1, none⟩ = some (.string a0_1) := cb BK122 1; have hcz25_2 := ci BK122.out 2 a0_2 rfl; have hcz25_3 := ci BK122.out 3 a0_3 rfl; have hcz25_4 := ci BK122.out 4 a0_4 rfl; have hcz25_5 := ci BK122.out 5 a0_5 rfl; have hfz25_0 := fun j_ : Nat => blk_frozen BK122.out j_; have hcz26_0 := ci BK123.out 0 a1_0 rfl; have hcz26_1 : w24.cell? ⟨gb123, 1, none⟩ = some (.string a1_1) := cb BK123 1; have hcz26_2 := ci BK123.out 2 a1_2 rfl; have hcz26_3 := ci BK123.out 3 a1_3 rfl; have hcz26_4 := ci BK123.out 4 a1_4 rfl; have hcz26_5 := ci BK123.out 5 a1_5 rfl; have hfz26_0 := fun j_ : Nat => blk_frozen BK123.out j_))
     go_ret
     exact ⟨eB, (bW HB)⟩
   ·obtain rfl := Option.some.inj H
    go_enter Tryd.func61, Tryd.ntmps61
    go_wp2_with (first | ((with_reducible refine gD 2 ?_); refine bxE 2 26 #[.int .i64 a0_0, .string a0_1, .int .i64 a0_2, .int .i64 a0_3, .int .i64 a0_4, .int .i64 a0_5] fun gb122 w27 hg hbox hb => ?_; have BK122 := Aside0.mk hbox; have GE122 := gB HB hg; replace HB := uB HB hb; clear hb hbox hg) | ((with_reducible refine gD 3 ?_); refine bxE 3 26 #[.int .i64 a1_0, .string a1_1, .int .i64 a1_2, .int .i64 a1_3, .int .i64 a1_4, .int .i64 a1_5] fun gb123 w28 hg hbox hb => ?_; have BK123 := Aside0.mk hbox; have GE123 := gB HB hg; have ⟨NB122_123, NB123_122⟩ := nB BK122 hg; replace BK122 := uK BK122 hb; replace HB := uB HB hb; clear hb hbox hg; have hnb29 := NB122_123.out; have hnc29 := NB123_122.out; have hcz30_0 := ci BK122.out 0 a0_0 rfl; have hcz30_1 : w28.cell? ⟨gb122, 1, none⟩ = some (.string a0_1) := cb BK122 1; have hcz30_2 := ci BK122.out 2 a0_2 rfl; have hcz30_3 := ci BK122.out 3 a0_3 rfl; have hcz30_4 := ci BK122.out 4 a0_4 rfl; have hcz30_5 := ci BK122.out 5 a0_5 rfl; have hfz30_0 := fun j_ : Nat => blk_frozen BK122.out j_) | ((with_reducible refine gC 72 ?_); refine lA (some 6) Tryd.func72 (impl_Permit_counts.calls a0_0 a0_1 a0_2 a0_3 a0_4 a0_5 true _ A3.out) ?_; intro w31 hb; replace BK122 := uK BK122 hb; replace BK123 := uK BK123 hb; replace HB := uB HB hb; (try clear hb); have hcz32_0 := ci BK123.out 0 a1_0 rfl; have hcz32_1 : w31.cell? ⟨gb123, 1, none⟩ = some (.string a1_1) := cb BK123 1; have hcz32_2 := ci BK123.out 2 a1_2 rfl; have hcz32_3 := ci BK123.out 3 a1_3 rfl; have hcz32_4 := ci BK123.out 4 a1_4 rfl; have hcz32_5 := ci BK123.out 5 a1_5 rfl; have hfz32_0 := fun j_ : Nat => blk_frozen BK123.out j_) | (go_at_call 72; (with_reducible refine (impl_Permit_counts.calls a1_0 a1_1 a1_2 a1_3 a1_4 a1_5 true _ A5.out).mono ?_); rintro e w33 ⟨rfl, hb⟩; replace BK122 := uK BK122 hb; replace BK123 := uK BK123 hb; replace HB := uB HB hb; (try clear hb); have hcz34_0 := ci BK122.out 0 a0_0 rfl; have hcz34_1 : w33.cell? ⟨gb122, 1, none⟩ = some (.string a0_1) := cb BK122 1; have hcz34_2 := ci BK122.out 2 a0_2 rfl; have hcz34_3 := ci BK122.out 3 a0_3 rfl; have hcz34_4 := ci BK122.out 4 a0_4 rfl; have hcz34_5 := ci BK122.out 5 a0_5 rfl; have hfz34_0 := fun j_ : Nat => blk_frozen BK122.out j_; have hcz35_0 := ci BK123.out 0 a1_0 rfl; have hcz35_1 : w33.cell? ⟨gb123, 1, none⟩ = some (.string a1_1) := cb BK123 1; have hcz35_2 := ci BK123.out 2 a1_2 rfl; have hcz35_3 := ci BK123.out 3 a1_3 rfl; have hcz35_4 := ci BK123.out 4 a1_4 rfl; have hcz35_5 := ci BK123.out 5 a1_5 rfl; have hfz35_0 := fun j_ : Nat => blk_frozen BK123.out j_))
    go_ret
    exact ⟨eB, (bW HB)⟩
  ·replace H := iF (by decide) H
   obtain rfl := Option.some.inj H
   go_enter Tryd.func61, Tryd.ntmps61
   go_wp2_with (first | ((with_reducible refine gD 2 ?_); refine bxE 2 26 #[.int .i64 a0_0, .string a0_1, .int .i64 a0_2, .int .i64 a0_3, .int .i64 a0_4, .int .i64 a0_5] fun gb122 w36 hg hbox hb => ?_; have BK122 := Aside0.mk hbox; have GE122 := gB HB hg; replace HB := uB HB hb; clear hb hbox hg) | ((with_reducible refine gD 3 ?_); refine bxE 3 26 #[.int .i64 a1_0, .string a1_1, .int .i64 a1_2, .int .i64 a1_3, .int .i64 a1_4, .int .i64 a1_5] fun gb123 w37 hg hbox hb => ?_; have BK123 := Aside0.mk hbox; have GE123 := gB HB hg; have ⟨NB122_123, NB123_122⟩ := nB BK122 hg; replace BK122 := uK BK122 hb; replace HB := uB HB hb; clear hb hbox hg; have hnb38 := NB122_123.out; have hnc38 := NB123_122.out; have hcz39_0 := ci BK122.out 0 a0_0 rfl; have hcz39_1 : w37.cell? ⟨gb122, 1, none⟩ = some (.string a0_1) := cb BK122 1; have hcz39_2 := ci BK122.out 2 a0_2 rfl; have hcz39_3 := ci BK122.out 3 a0_3 rfl; have hcz39_4 := ci BK122.out 4 a0_4 rfl; have hcz39_5 := ci BK122.out 5 a0_5 rfl; have hfz39_0 := fun j_ : Nat => blk_frozen BK122.out j_) | ((with_reducible refine gC 72 ?_); refine lA (some 6) Tryd.func72 (impl_Permit_counts.calls a0_0 a0_1 a0_2 a0_3 a0_4 a0_5 true _ A3.out) ?_; intro w40 hb; replace BK122 := uK BK122 hb; replace BK123 := uK BK123 hb; replace HB := uB HB hb; (try clear hb); have hcz41_0 := ci BK123.out 0 a1_0 rfl; have hcz41_1 : w40.cell? ⟨gb123, 1, none⟩ = some (.string a1_1) := cb BK123 1; have hcz41_2 := ci BK123.out 2 a1_2 rfl; have hcz41_3 := ci BK123.out 3 a1_3 rfl; have hcz41_4 := ci BK123.out 4 a1_4 rfl; have hcz41_5 := ci BK123.out 5 a1_5 rfl; have hfz41_0 := fun j_ : Nat => blk_frozen BK123.out j_) | (go_at_call 72; (with_reducible refine (impl_Permit_counts.calls a1_0 a1_1 a1_2 a1_3 a1_4 a1_5 false _ A5.out).mono ?_); rintro e w42 ⟨rfl, hb⟩; replace BK122 := uK BK122 hb; replace BK123 := uK BK123 hb; replace HB := uB HB hb; (try clear hb)))
   go_ret
   exact ⟨eB, (bW HB)⟩
 ·replace H := iF (by decide) H
  obtain rfl := Option.some.inj H
  go_enter Tryd.func61, Tryd.ntmps61
  go_wp2_with (first | ((with_reducible refine gD 2 ?_); refine bxE 2 26 #[.int .i64 a0_0, .string a0_1, .int .i64 a0_2, .int .i64 a0_3, .int .i64 a0_4, .int .i64 a0_5] fun gb122 w43 hg hbox hb => ?_; have BK122 := Aside0.mk hbox; have GE122 := gB HB hg; replace HB := uB HB hb; clear hb hbox hg) | ((with_reducible refine gD 3 ?_); refine bxE 3 26 #[.int .i64 a1_0, .string a1_1, .int .i64 a1_2, .int .i64 a1_3, .int .i64 a1_4, .int .i64 a1_5] fun gb123 w44 hg hbox hb => ?_; have BK123 := Aside0.mk hbox; have GE123 := gB HB hg; have ⟨NB122_123, NB123_122⟩ := nB BK122 hg; replace BK122 := uK BK122 hb; replace HB := uB HB hb; clear hb hbox hg; have hnb45 := NB122_123.out; have hnc45 := NB123_122.out; have hcz46_0 := ci BK122.out 0 a0_0 rfl; have hcz46_1 : w44.cell? ⟨gb122, 1, none⟩ = some (.string a0_1) := cb BK122 1; have hcz46_2 := ci BK122.out 2 a0_2 rfl; have hcz46_3 := ci BK122.out 3 a0_3 rfl; have hcz46_4 := ci BK122.out 4 a0_4 rfl; have hcz46_5 := ci BK122.out 5 a0_5 rfl; have hfz46_0 := fun j_ : Nat => blk_frozen BK122.out j_) | ((with_reducible refine gC 72 ?_); refine lA (some 6) Tryd.func72 (impl_Permit_counts.calls a0_0 a0_1 a0_2 a0_3 a0_4 a0_5 false _ A3.out) ?_; intro w47 hb; replace BK122 := uK BK122 hb; replace BK123 := uK BK123 hb; replace HB := uB HB hb; (try clear hb)))
  go_ret
  exact ⟨eB, (bW HB)⟩

/-! ### impl_xConflicts: function 140 -/
-- reaches: impl.conflict
theorem cells6 {W : World} {b : Nat} {t : TypeId} {u0 u1 u2 u3 u4 u5 v0 v1 v2 v3 v4 v5 : Value} (h : W.heap[b]? = some (.cells #[u0, u1, u2, u3, u4, u5] t (0, 0))) : ((((((W.setCell ⟨b, 0, none⟩ v0).setCell ⟨b, 1, none⟩ v1).setCell ⟨b, 2, none⟩ v2).setCell ⟨b, 3, none⟩ v3).setCell ⟨b, 4, none⟩ v4).setCell ⟨b, 5, none⟩ v5).heap[b]? = some (.cells #[v0, v1, v2, v3, v4, v5] t (0, 0)) :=
 blk_put (cs := #[v0, v1, v2, v3, v4, u5]) (blk_put (cs := #[v0, v1, v2, v3, u4, u5]) (blk_put (cs := #[v0, v1, v2, u3, u4, u5]) (blk_put (cs := #[v0, v1, u2, u3, u4, u5]) (blk_put (cs := #[v0, u1, u2, u3, u4, u5]) (blk_put (cs := #[u0, u1, u2, u3, u4, u5]) h 0 v0 rfl) 1 v1 rfl) 2 v2 rfl) 3 v3 rfl) 4 v4 rfl) 5 v5 rfl

theorem getD_drop' {α : Type} (xs : List α) (i : Nat) (d : α) (h : i < xs.length) : xs.drop i = xs.getD i d :: xs.drop (i + 1) := by
 rw [List.drop_eq_getElem_cons h]
 simp [List.getD, List.getElem?_eq_getElem h]
theorem getD_mem' {α : Type} (xs : List α) (i : Nat) (d : α) (h : i < xs.length) : xs.getD i d ∈ xs := by
 rw [List.getD_eq_getElem?_getD, List.getElem?_eq_getElem h]
 exact List.getElem_mem h
def idxP26 (p : S26 → Bool) : List (S26) → Int → Int
 | [], _ => -1
 | x :: l, i => if p x = true then i else idxP26 p l (i + 1)
theorem idxP26_any (p : S26 → Bool) : ∀ (l : List (S26)) (i : Int), 0 ≤ i → decide (0 ≤ idxP26 p l i) = l.any p := by
 intro l
 induction l with
 | nil => intro i h; rfl
 | cons x l ih =>
  intro i h
  rw [idxP26, List.any_cons]
  by_cases c : p x = true
  ·rw [if_pos c, c, Bool.true_or]; exact decide_eq_true h
  ·rw [if_neg c, Bool.eq_false_iff.mpr c, Bool.false_or]; exact ih (i + 1) (by omega)

set_option maxHeartbeats 4000000 in
set_option maxRecDepth 100000 in
theorem IndexFunc_conflicts (p : S26 → Bool) (V : Value) (A0 : Option Addr) (c0 : Nat) (l0 : List (S26)) (w : World) (hr0 : Kd.C k26 w A0 l0.length l0) (hc0 : l0.length ≤ c0)
  (hp : ∀ (x : S26) (W : World), x ∈ l0 → Below w.heap.size w W → Calls Tryd.prog 60 #[.agg #[.int .i64 x.f0, .string x.f1, .int .i64 x.f2, .int .i64 x.f3, .int .i64 x.f4, .int .i64 x.f5], V] W fun e W' => e = .returned (.bool (p x)) ∧ Below W.heap.size W W') :
  Calls Tryd.prog 92 #[.slice A0 l0.length c0, .func (.func 60) #[] #[V]] w fun e w' => e = .returned (.int .i64 (idxP26 p l0 0)) ∧ Below w.heap.size w w' := by
 have hu := Tryd.underlying26
 have hm := hr0.2.1
 go_enter Tryd.func92, Tryd.ntmps92
 go_wp2
 go_loopw [8] (fun v wr => ∃ i : Nat, i ≤ l0.length ∧ v = .int .i64 i ∧ idxP26 p l0 0 = idxP26 p (l0.drop i) i ∧ Below w.heap.size w wr) (fun v _ => l0.length - (intOf v).toNat)
 case atStart => exact ⟨0, by omega, rfl, by simp, Below.refl _ _⟩
 case round =>
  obtain ⟨i, hi, rfl, he, hb⟩ := hrel
  by_cases hlt : i < l0.length
  ·obtain ⟨ad, rfl, h0, h1, h2, h3, h4, h5⟩ := at_T26 (Kd.C_below hr0 hb) (i : Int) (by omega) (by omega)
   have hx : rd_T26 l0 (i : Int) = l0.getD i z26 := by unfold rd_T26; rw [Int.toNat_natCast]
   have hmem := getD_mem' l0 i z26 hlt
   rw [hx] at h0 h1 h2 h3 h4 h5
   rw [getD_drop' l0 i z26 hlt] at he
   generalize l0.getD i z26 = x at h0 h1 h2 h3 h4 h5 he hx hmem
   clear hx
   rw [Int.toNat_natCast] at h0 h1 h2 h3 h4 h5
   cases hpx : p x with
   | true =>
    have hq := hp x wr hmem hb
    rw [hpx] at hq
    have he' := Aside0.mk he
    have hb' := Aside0.mk hb
    have hpx' := Aside0.mk hpx
    clear he hb hp hpx hmem
    go_wp2_with (go_at_call 60; refine hq.mono ?_; rintro e w1 ⟨rfl, hb1⟩)
    go_ret
    refine ⟨?_, hb'.out.trans (hb1.mono hb'.out.size)⟩
    rw [he'.out, idxP26, if_pos hpx'.out]
    rfl
   | false =>
    have hq := hp x wr hmem hb
    rw [hpx] at hq
    have he' := Aside0.mk he
    have hb' := Aside0.mk hb
    have hpx' := Aside0.mk hpx
    have hp' := Aside0.mk hp
    clear he hb hp hpx hmem
    go_wp2_with (go_at_call 60; refine hq.mono ?_; rintro e w1 ⟨rfl, hb1⟩)
    go_roundw
    case rel => exact ⟨i + 1, by omega, by go_num, by rw [he'.out, idxP26, hpx'.out]; rfl, hb'.out.trans (hb1.mono hb'.out.size)⟩
    case measure => simp [intOf]; omega
  ·have hd : l0.drop i = [] := List.drop_eq_nil_of_le (by omega)
   rw [hd] at he
   have he' := Aside0.mk he
   have hb' := Aside0.mk hb
   clear he hb hp hd
   go_wp2
   go_ret
   exact ⟨by rw [he'.out, idxP26]; rfl, hb'.out⟩

set_option maxHeartbeats 4000000 in
theorem ContainsFunc_conflicts (p : S26 → Bool) (V : Value) (A0 : Option Addr) (c0 : Nat) (l0 : List (S26)) (w : World) (hr0 : Kd.C k26 w A0 l0.length l0) (hc0 : l0.length ≤ c0)
  (hp : ∀ (x : S26) (W : World), x ∈ l0 → Below w.heap.size w W → Calls Tryd.prog 60 #[.agg #[.int .i64 x.f0, .string x.f1, .int .i64 x.f2, .int .i64 x.f3, .int .i64 x.f4, .int .i64 x.f5], V] W fun e W' => e = .returned (.bool (p x)) ∧ Below W.heap.size W W') :
  Calls Tryd.prog 59 #[.slice A0 l0.length c0, .func (.func 60) #[] #[V]] w fun e w' => e = .returned (.bool (l0.any p)) ∧ Below w.heap.size w w' := by
 have hcon := IndexFunc_conflicts p V A0 c0 l0 w hr0 hc0 hp
 have ha := idxP26_any p l0 0 (by omega)
 generalize idxP26 p l0 0 = q at hcon ha
 generalize l0.any p = b at ha ⊢
 clear hp
 go_enter Tryd.func59, Tryd.ntmps59
 go_wp2_with (go_at_call 92; refine hcon.mono ?_; rintro e w1 ⟨rfl, hb1⟩)
 go_ret
 exact ⟨rfl, hb1⟩

theorem conflict_tot (y0 : Int) (y1 : ByteArray) (y2 y3 y4 y5 : Int) (x0 : Int) (x1 : ByteArray) (x2 x3 x4 x5 : Int) : ∃ r, impl_conflict.f y0 y1 y2 y3 y4 y5 x0 x1 x2 x3 x4 x5 = some r := by
 have e : ∀ (a : Int) (b : ByteArray) (c d e f : Int), impl_Permit_counts.f a b c d e f = some (f == 1 || f == 3) := by
  intro a b c d e f
  unfold impl_Permit_counts.f
  by_cases h : f = 1 <;> simp [h]
 unfold impl_conflict.f
 simp only [e, Option.bind_some]
 repeat' split
 all_goals exact ⟨_, rfl⟩
theorem conflictsClosure (x : S26) (y0 : Int) (y1 : ByteArray) (y2 y3 y4 y5 : Int) (r : Bool) (b : Nat) (W : World) (hb : W.heap[b]? = some (.cells #[.int .i64 y0, .string y1, .int .i64 y2, .int .i64 y3, .int .i64 y4, .int .i64 y5] 26 (0, 0))) (h : impl_conflict.f y0 y1 y2 y3 y4 y5 x.f0 x.f1 x.f2 x.f3 x.f4 x.f5 = some r) :
  Calls Tryd.prog 60 #[.agg #[.int .i64 x.f0, .string x.f1, .int .i64 x.f2, .int .i64 x.f3, .int .i64 x.f4, .int .i64 x.f5], .pointer (some ⟨b, 0, none⟩)] W fun e W' => e = .returned (.bool r) ∧ Below W.heap.size W W' := by
 have hu := Tryd.underlying26
 have h0 := (blk_cell hb 0).trans rfl
 have h1 := (blk_cell hb 1).trans rfl
 have h2 := (blk_cell hb 2).trans rfl
 have h3 := (blk_cell hb 3).trans rfl
 have h4 := (blk_cell hb 4).trans rfl
 have h5 := (blk_cell hb 5).trans rfl
 have hl := World.block_lt_of_cell? W _ h0
 have hcon := fun V => impl_conflict.calls y0 y1 y2 y3 y4 y5 x.f0 x.f1 x.f2 x.f3 x.f4 x.f5 r V h
 clear h hb
 go_enter Tryd.func60, Tryd.ntmps60
 go_wp2_with (go_at_call 61; refine (hcon _).mono ?_; rintro e w1 ⟨rfl, hb1⟩)
 go_ret
 exact ⟨rfl, ((Below.refl _ W).alloc (Nat.le_refl _) _).trans (hb1.mono (by simp))⟩
def impl_xConflicts.f (l0 : List (S26)) (a1_0 : Int) (a1_1 : ByteArray) (a1_2 a1_3 a1_4 a1_5 : Int) : Option Bool := some (l0.any fun x => impl_conflict.f a1_0 a1_1 a1_2 a1_3 a1_4 a1_5 x.f0 x.f1 x.f2 x.f3 x.f4 x.f5 == some true)
theorem impl_xConflicts.calls (A0 : Option Addr) (c0 : Nat) (l0 : List (S26)) (a1_0 : Int) (a1_1 : ByteArray) (a1_2 a1_3 a1_4 a1_5 : Int) (r : Bool) (w : World) (hr0 : Kd.C k26 w A0 l0.length l0) (hc0 : l0.length ≤ c0) (h : impl_xConflicts.f l0 a1_0 a1_1 a1_2 a1_3 a1_4 a1_5 = some r) {b : Nat} (hcell : w.heap[b]? = some (.cells #[.int .i64 a1_0, .string a1_1, .int .i64 a1_2, .int .i64 a1_3, .int .i64 a1_4, .int .i64 a1_5] 26 (0, 0)) := by first | assumption | (refine Aside0.out ?_; assumption) | (apply cells6; refine Aside0.out ?_; assumption)) :
  Calls Tryd.prog 59 #[.slice A0 l0.length c0, .func (.func 60) #[] #[.pointer (some ⟨b, 0, none⟩)]] w fun e w' => e = .returned (.bool r) ∧ Below w.heap.size w w' := by
 obtain rfl := Option.some.inj h
 refine ContainsFunc_conflicts (fun x => impl_conflict.f a1_0 a1_1 a1_2 a1_3 a1_4 a1_5 x.f0 x.f1 x.f2 x.f3 x.f4 x.f5 == some true) (.pointer (some ⟨b, 0, none⟩)) A0 c0 l0 w hr0 hc0 (fun x W _ hB => ?_)
 obtain ⟨r, hr⟩ := conflict_tot a1_0 a1_1 a1_2 a1_3 a1_4 a1_5 x.f0 x.f1 x.f2 x.f3 x.f4 x.f5
 have := conflictsClosure x a1_0 a1_1 a1_2 a1_3 a1_4 a1_5 r b W (blk_below hcell hB) hr
 simp only [hr]
 cases r <;> exact this

end Go.Proofs.YtgeioccfjgpijaaDoor.QFnPermitDays
