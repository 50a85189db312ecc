/- Contracts of Go functions that FnPermits reaches: the call computes what the plain function says. No condition. -/
import Derived.Test.YtgeioccfjgpijaaDoorQFnPermitsx0
namespace Go.Proofs.YtgeioccfjgpijaaDoor.QFnPermits
open Go.RowKit Go.Proofs.YtgeioccfjgpijaaDoorW.PrintWords Go.Proofs.YtgeioccfjgpijaaDoorW.PrintLast Go.Proofs.YtgeioccfjgpijaaDoorW.PrintMore
attribute [local go_sem] max2_int min2_int max_two min_two max_three min_three max_four min_four   -- for this text's walks alone
set_option linter.unusedVariables false
set_option linter.unusedSimpArgs false

/-! ### spec_l1In: function 67 -/
def spec_l1In.f (a0 a1 a2 : Int) : Option (Bool) := if a0 ≥ a1 then (some (decide (a0 ≤ a2))) else (some false)
set_option maxHeartbeats 8000000 in
set_option maxRecDepth 100000 in
theorem spec_l1In.calls (a0 a1 a2 : Int) (r : Bool) (w : World) (h : spec_l1In.f a0 a1 a2 = some r) :
  Calls Tryd.prog 67 #[.int .i64 a0, .int .i64 a1, .int .i64 a2] w fun e w' => e = .returned (.bool r) ∧ Drawn0 w w' := by
 have H := h
 clear h
 unfold spec_l1In.f at H
 replace H := ifD H
 rcases H with ⟨H, -, c4b0⟩ | ⟨H, -, c4b0⟩
 ·obtain rfl := Option.some.inj H
  go_enter Tryd.func67, Tryd.ntmps67
  go_wp2
  go_ret
  exact ⟨rB, by repeat (first | exact Drawn0.refl _ | apply Drawn0.step)⟩
 ·obtain rfl := Option.some.inj H
  go_enter Tryd.func67, Tryd.ntmps67
  go_wp2
  go_ret
  exact ⟨rB, by repeat (first | exact Drawn0.refl _ | apply Drawn0.step)⟩

/-! ### spec_l22Day: function 63 -/
def spec_l22Day.f (a0 : Int) : Option (Bool) := (spec_l1In.f a0 0 999).bind fun t101 => (some t101)
set_option maxHeartbeats 8000000 in
set_option maxRecDepth 100000 in
theorem spec_l22Day.calls (a0 : Int) (r : Bool) (w : World) (h : spec_l22Day.f a0 = some r) :
  Calls Tryd.prog 63 #[.int .i64 a0] w fun e w' => e = .returned (.bool r) ∧ Drawn0 w w' := by
 have H := h
 clear h
 unfold spec_l22Day.f at H
 replace H := bA H
 obtain ⟨t101, A2, H⟩ := H
 obtain rfl := Option.some.inj H
 go_enter Tryd.func63, Tryd.ntmps63
 go_wp2_with (first | ((with_reducible refine gC 67 ?_); refine lA (some 4) Tryd.func67 (spec_l1In.calls a0 0 999 t101 _ A2.out) ?_; rintro _ ⟨nd, rfl⟩))
 go_ret
 exact ⟨rB, by repeat (first | exact Drawn0.refl _ | apply Drawn0.step)⟩

/-! ### spec_l2Word: function 66 -/
def spec_l2Word.l0 : Nat → ByteArray → Int → Option (Bool)
 | 0, _, _ => none
 | k + 1, x0, x3 => if x3 < (x0.size : Int) then (if 0 ≤ x3 then (if (bt x0 x3) < 97 then (some false) else (if (bt x0 x3) > 122 then (some false) else (spec_l2Word.l0 k x0 (wrap64 (x3 + 1))))) else (none)) else ((spec_l1In.f (x0.size : Int) 1 10).bind fun t102 => (some t102))
def spec_l2Word.f (k : Nat) (a0 : ByteArray) : Option (Bool) := spec_l2Word.l0 k a0 0
theorem spec_l2Word.mono_l : ∀ k, (∀ y0 y1, LeO (spec_l2Word.l0 k y0 y1) (spec_l2Word.l0 (k + 1) y0 y1))
 | 0 => fun _ _ r h => by simp [spec_l2Word.l0] at h
 | k + 1 => by
  have ih0 := spec_l2Word.mono_l k
  ·intro y0 y1
   unfold spec_l2Word.l0
   repeat' with_reducible first | apply ih0 | exact LeO.refl _ | exact LeO.none _ | refine LeO.ite ?_ ?_ | refine LeO.bind ?_ (fun _ => ?_)
theorem spec_l2Word.mono : ∀ a0 k, LeO (spec_l2Word.f k a0) (spec_l2Word.f (k + 1) a0) := by
 intro a0 k
 have ih0 := spec_l2Word.mono_l k
 unfold spec_l2Word.f
 repeat' with_reducible first | apply ih0 | exact LeO.refl _ | exact LeO.none _ | refine LeO.ite ?_ ?_ | refine LeO.bind ?_ (fun _ => ?_)
set_option maxHeartbeats 8000000 in
set_option maxRecDepth 100000 in
theorem spec_l2Word.calls (k : Nat) (a0 : ByteArray) (r : Bool) (w : World) (h : spec_l2Word.f k a0 = some r) :
  Calls Tryd.prog 66 #[.string a0] w fun e w' => e = .returned (.bool r) ∧ Drawn0 w w' := by
 have H : (spec_l2Word.l0 k a0 0) = some r := h
 clear h
 have H' := Aside0.mk H
 clear H
 go_enter Tryd.func66, Tryd.ntmps66
 go_wp2
 go_loopg [3] k (fun kq v3 w' => ∃ (x3_1 : Int), v3 = .int .i64 x3_1 ∧ Aside0 (spec_l2Word.l0 kq a0 x3_1 = some r) ∧ Aside0 (kq ≤ k) ∧ Drawn0 w w')
 case atStart => exact ⟨(0), rB, H', ⟨Nat.le_refl _⟩, by repeat (first | exact Drawn0.refl _ | apply Drawn0.step)⟩
 case round =>
  clear H'
  obtain ⟨x3_1, rfl, HA, HK1, ⟨m1, rfl⟩⟩ := hrel
  cases gk with
  | zero => exact absurd HA.out (by simp [spec_l2Word.l0])
  | succ k1 =>
   have H := HA.out
   clear HA
   simp only [spec_l2Word.l0] at H
   replace H := ifD H
   rcases H with ⟨H, -, c2b0⟩ | ⟨H, -, c2b0⟩
   ·by_cases c3 : 0 ≤ x3_1
    ·rw [if_pos c3] at H
     have c3b0 : decide (0 ≤ x3_1) = true := decide_eq_true c3
     clear c3
     replace H := ifD H
     rcases H with ⟨H, -, c5b0⟩ | ⟨H, -, c5b0⟩
     ·obtain rfl := Option.some.inj H
      have p4 : 0 ≤ (x3_1 : Int) := of_decide_eq_true asmB
      have q4 : x3_1 < (a0.size : Int) := of_decide_eq_true asmB
      have hx4 := bt_at a0 x3_1
      replace p4 := eq_true p4
      replace q4 := eq_true q4
      go_wp2
      go_ret
      exact ⟨rB, by repeat (first | exact Drawn0.refl _ | apply Drawn0.step)⟩
     ·replace H := ifD H
      rcases H with ⟨H, -, c7b0⟩ | ⟨H, -, c7b0⟩
      ·obtain rfl := Option.some.inj H
       have p4 : 0 ≤ (x3_1 : Int) := of_decide_eq_true asmB
       have q4 : x3_1 < (a0.size : Int) := of_decide_eq_true asmB
       have hx4 := bt_at a0 x3_1
       replace p4 := eq_true p4
       replace q4 := eq_true q4
       have p6 : 0 ≤ (x3_1 : Int) := of_decide_eq_true asmB
       have q6 : x3_1 < (a0.size : Int) := of_decide_eq_true asmB
       have hx6 := bt_at a0 x3_1
       replace p6 := eq_true p6
       replace q6 := eq_true q6
       go_wp2
       go_ret
       exact ⟨rB, by repeat (first | exact Drawn0.refl _ | apply Drawn0.step)⟩
      ·have H' := Aside0.mk H
       clear H
       have p4 : 0 ≤ (x3_1 : Int) := of_decide_eq_true asmB
       have q4 : x3_1 < (a0.size : Int) := of_decide_eq_true asmB
       have hx4 := bt_at a0 x3_1
       replace p4 := eq_true p4
       replace q4 := eq_true q4
       have p6 : 0 ≤ (x3_1 : Int) := of_decide_eq_true asmB
       have q6 : x3_1 < (a0.size : Int) := of_decide_eq_true asmB
       have hx6 := bt_at a0 x3_1
       replace p6 := eq_true p6
       replace q6 := eq_true q6
       go_wp2
       go_roundg k1
       case measure => have := HK1.out; omega
       case rel => exact ⟨(wrap64 (x3_1 + 1)), rB, H', ⟨by have := HK1.out; omega⟩, by repeat (first | exact Drawn0.refl _ | apply Drawn0.step)⟩
    ·rw [if_neg c3] at H
     exact absurd H (by simp)
   ·replace H := bA H
    obtain ⟨t102, A8, H⟩ := H
    obtain rfl := Option.some.inj H
    go_wp2_with (first | ((with_reducible refine gC 67 ?_); refine lA (some 22) Tryd.func67 (spec_l1In.calls (a0.size : Int) 1 10 t102 _ A8.out) ?_; rintro _ ⟨nd, rfl⟩))
    go_ret
    exact ⟨rB, by repeat (first | exact Drawn0.refl _ | apply Drawn0.step)⟩

/-! ### spec_l22One: function 53 -/
def spec_l22One.f (k : Nat) (a0_0 : Int) (a0_1 : ByteArray) (a0_2 a0_3 a0_4 a0_5 : Int) : Option (Bool) := (spec_l1In.f a0_0 1 99).bind fun t104 => (if t104 = true then ((spec_l2Word.f k a0_1).bind fun t105 => (if t105 = true then ((spec_l22Day.f a0_2).bind fun t106 => (if t106 = true then ((spec_l1In.f a0_3 a0_2 999).bind fun t107 => (if t107 = true then ((spec_l1In.f a0_4 1 12).bind fun t108 => (if t108 = true then ((spec_l1In.f a0_5 0 4).bind fun t109 => (some t109)) else (some false))) else (some false))) else (some false))) else (some false))) else (some false))
theorem spec_l22One.mono : ∀ a0 a1 a2 a3 a4 a5 k, LeO (spec_l22One.f k a0 a1 a2 a3 a4 a5) (spec_l22One.f (k + 1) a0 a1 a2 a3 a4 a5) := by
 intro a0 a1 a2 a3 a4 a5 k
 unfold spec_l22One.f
 repeat' with_reducible first | apply spec_l2Word.mono | exact LeO.refl _ | exact LeO.none _ | refine LeO.ite ?_ ?_ | refine LeO.bind ?_ (fun _ => ?_)
set_option maxHeartbeats 8000000 in
set_option maxRecDepth 100000 in
theorem spec_l22One.calls (k : Nat) (a0_0 : Int) (a0_1 : ByteArray) (a0_2 a0_3 a0_4 a0_5 : Int) (r : Bool) (w : World) (h : spec_l22One.f k a0_0 a0_1 a0_2 a0_3 a0_4 a0_5 = some r) :
  Calls Tryd.prog 53 #[.agg #[.int .i64 a0_0, .string a0_1, .int .i64 a0_2, .int .i64 a0_3, .int .i64 a0_4, .int .i64 a0_5]] w fun e w' => e = .returned (.bool r) ∧ Below w.heap.size w w' := by
 have hu26 := Tryd.underlying26
 have HB := Aside0.mk (Below.refl w.heap.size w)
 have H := h
 clear h
 unfold spec_l22One.f at H
 replace H := bA H
 obtain ⟨t104, A2, H⟩ := H
 rcases Bool.eq_false_or_eq_true t104 with rfl | rfl
 ·replace H := iT rfl H
  replace H := bA H
  obtain ⟨t105, A4, H⟩ := H
  rcases Bool.eq_false_or_eq_true t105 with rfl | rfl
  ·replace H := iT rfl H
   replace H := bA H
   obtain ⟨t106, A6, H⟩ := H
   rcases Bool.eq_false_or_eq_true t106 with rfl | rfl
   ·replace H := iT rfl H
    replace H := bA H
    obtain ⟨t107, A8, H⟩ := H
    rcases Bool.eq_false_or_eq_true t107 with rfl | rfl
    ·replace H := iT rfl H
     replace H := bA H
     obtain ⟨t108, A10, H⟩ := H
     rcases Bool.eq_false_or_eq_true t108 with rfl | rfl
     ·replace H := iT rfl H
      replace H := bA H
      obtain ⟨t109, A12, H⟩ := H
      obtain rfl := Option.some.inj H
      go_enter Tryd.func53, Tryd.ntmps53
      go_wp2_with (first | ((with_reducible refine gD 1 ?_); refine bxE 1 26 #[.int .i64 a0_0, .string a0_1, .int .i64 a0_2, .int .i64 a0_3, .int .i64 a0_4, .int .i64 a0_5] fun gb103 w13 hg hbox hb => ?_; have BK103 := Aside0.mk hbox; have GE103 := gB HB hg; replace HB := uB HB hb; clear hb hbox hg; have hcz14_0 := ci BK103.out 0 a0_0 rfl; have hcz14_1 : w13.cell? ⟨gb103, 1, none⟩ = some (.string a0_1) := cb BK103 1; have hcz14_2 := ci BK103.out 2 a0_2 rfl; have hcz14_3 := ci BK103.out 3 a0_3 rfl; have hcz14_4 := ci BK103.out 4 a0_4 rfl; have hcz14_5 := ci BK103.out 5 a0_5 rfl; have hfz14_0 := fun j_ : Nat => blk_frozen BK103.out j_) | ((with_reducible refine gC 67 ?_); refine lA (some 5) Tryd.func67 (spec_l1In.calls a0_0 1 99 true _ A2.out) ?_; rintro _ ⟨nd, rfl⟩) | (go_at_call 66; (with_reducible refine (spec_l2Word.calls k a0_1 true _ A4.out).mono ?_); rintro e w' ⟨rfl, ⟨nd, rfl⟩⟩) | (go_at_call 63; (with_reducible refine (spec_l22Day.calls a0_2 true _ A6.out).mono ?_); rintro e w' ⟨rfl, ⟨nd, rfl⟩⟩) | (go_at_call 67; (with_reducible refine (spec_l1In.calls a0_3 a0_2 999 true _ A8.out).mono ?_); rintro e w' ⟨rfl, ⟨nd, rfl⟩⟩) | (go_at_call 67; (with_reducible refine (spec_l1In.calls a0_4 1 12 true _ A10.out).mono ?_); rintro e w' ⟨rfl, ⟨nd, rfl⟩⟩) | (go_at_call 67; (with_reducible refine (spec_l1In.calls a0_5 0 4 t109 _ A12.out).mono ?_); rintro e w' ⟨rfl, ⟨nd, rfl⟩⟩))
      go_ret
      exact ⟨eB, (bW HB)⟩
     ·replace H := iF (by decide) H
      obtain rfl := Option.some.inj H
      go_enter Tryd.func53, Tryd.ntmps53
      go_wp2_with (first | ((with_reducible refine gD 1 ?_); refine bxE 1 26 #[.int .i64 a0_0, .string a0_1, .int .i64 a0_2, .int .i64 a0_3, .int .i64 a0_4, .int .i64 a0_5] fun gb103 w15 hg hbox hb => ?_; have BK103 := Aside0.mk hbox; have GE103 := gB HB hg; replace HB := uB HB hb; clear hb hbox hg; have hcz16_0 := ci BK103.out 0 a0_0 rfl; have hcz16_1 : w15.cell? ⟨gb103, 1, none⟩ = some (.string a0_1) := cb BK103 1; have hcz16_2 := ci BK103.out 2 a0_2 rfl; have hcz16_3 := ci BK103.out 3 a0_3 rfl; have hcz16_4 := ci BK103.out 4 a0_4 rfl; have hcz16_5 := ci BK103.out 5 a0_5 rfl; have hfz16_0 := fun j_ : Nat => blk_frozen BK103.out j_) | ((with_reducible refine gC 67 ?_); refine lA (some 5) Tryd.func67 (spec_l1In.calls a0_0 1 99 true _ A2.out) ?_; rintro _ ⟨nd, rfl⟩) | (go_at_call 66; (with_reducible refine (spec_l2Word.calls k a0_1 true _ A4.out).mono ?_); rintro e w' ⟨rfl, ⟨nd, rfl⟩⟩) | (go_at_call 63; (with_reducible refine (spec_l22Day.calls a0_2 true _ A6.out).mono ?_); rintro e w' ⟨rfl, ⟨nd, rfl⟩⟩) | (go_at_call 67; (with_reducible refine (spec_l1In.calls a0_3 a0_2 999 true _ A8.out).mono ?_); rintro e w' ⟨rfl, ⟨nd, rfl⟩⟩) | (go_at_call 67; (with_reducible refine (spec_l1In.calls a0_4 1 12 false _ A10.out).mono ?_); rintro e w' ⟨rfl, ⟨nd, rfl⟩⟩))
      go_ret
      exact ⟨eB, (bW HB)⟩
    ·replace H := iF (by decide) H
     obtain rfl := Option.some.inj H
     go_enter Tryd.func53, Tryd.ntmps53
     go_wp2_with (first | ((with_reducible refine gD 1 ?_); refine bxE 1 26 #[.int .i64 a0_0, .string a0_1, .int .i64 a0_2, .int .i64 a0_3, .int .i64 a0_4, .int .i64 a0_5] fun gb103 w17 hg hbox hb => ?_; have BK103 := Aside0.mk hbox; have GE103 := gB HB hg; replace HB := uB HB hb; clear hb hbox hg; have hcz18_0 := ci BK103.out 0 a0_0 rfl; have hcz18_1 : w17.cell? ⟨gb103, 1, none⟩ = some (.string a0_1) := cb BK103 1; have hcz18_2 := ci BK103.out 2 a0_2 rfl; have hcz18_3 := ci BK103.out 3 a0_3 rfl; have hcz18_4 := ci BK103.out 4 a0_4 rfl; have hcz18_5 := ci BK103.out 5 a0_5 rfl; have hfz18_0 := fun j_ : Nat => blk_frozen BK103.out j_) | ((with_reducible refine gC 67 ?_); refine lA (some 5) Tryd.func67 (spec_l1In.calls a0_0 1 99 true _ A2.out) ?_; rintro _ ⟨nd, rfl⟩) | (go_at_call 66; (with_reducible refine (spec_l2Word.calls k a0_1 true _ A4.out).mono ?_); rintro e w' ⟨rfl, ⟨nd, rfl⟩⟩) | (go_at_call 63; (with_reducible refine (spec_l22Day.calls a0_2 true _ A6.out).mono ?_); rintro e w' ⟨rfl, ⟨nd, rfl⟩⟩) | (go_at_call 67; (with_reducible refine (spec_l1In.calls a0_3 a0_2 999 false _ A8.out).mono ?_); rintro e w' ⟨rfl, ⟨nd, rfl⟩⟩))
     go_ret
     exact ⟨eB, (bW HB)⟩
   ·replace H := iF (by decide) H
    obtain rfl := Option.some.inj H
    go_enter Tryd.func53, Tryd.ntmps53
    go_wp2_with (first | ((with_reducible refine gD 1 ?_); refine bxE 1 26 #[.int .i64 a0_0, .string a0_1, .int .i64 a0_2, .int .i64 a0_3, .int .i64 a0_4, .int .i64 a0_5] fun gb103 w19 hg hbox hb => ?_; have BK103 := Aside0.mk hbox; have GE103 := gB HB hg; replace HB := uB HB hb; clear hb hbox hg; have hcz20_0 := ci BK103.out 0 a0_0 rfl; have hcz20_1 : w19.cell? ⟨gb103, 1, none⟩ = some (.string a0_1) := cb BK103 1; have hcz20_2 := ci BK103.out 2 a0_2 rfl; have hcz20_3 := ci BK103.out 3 a0_3 rfl; have hcz20_4 := ci BK103.out 4 a0_4 rfl; have hcz20_5 := ci BK103.out 5 a0_5 rfl; have hfz20_0 := fun j_ : Nat => blk_frozen BK103.out j_) | ((with_reducible refine gC 67 ?_); refine lA (some 5) Tryd.func67 (spec_l1In.calls a0_0 1 99 true _ A2.out) ?_; rintro _ ⟨nd, rfl⟩) | (go_at_call 66; (with_reducible refine (spec_l2Word.calls k a0_1 true _ A4.out).mono ?_); rintro e w' ⟨rfl, ⟨nd, rfl⟩⟩) | (go_at_call 63; (with_reducible refine (spec_l22Day.calls a0_2 false _ A6.out).mono ?_); rintro e w' ⟨rfl, ⟨nd, rfl⟩⟩))
    go_ret
    exact ⟨eB, (bW HB)⟩
  ·replace H := iF (by decide) H
   obtain rfl := Option.some.inj H
   go_enter Tryd.func53, Tryd.ntmps53
   go_wp2_with (first | ((with_reducible refine gD 1 ?_); refine bxE 1 26 #[.int .i64 a0_0, .string a0_1, .int .i64 a0_2, .int .i64 a0_3, .int .i64 a0_4, .int .i64 a0_5] fun gb103 w21 hg hbox hb => ?_; have BK103 := Aside0.mk hbox; have GE103 := gB HB hg; replace HB := uB HB hb; clear hb hbox hg; have hcz22_0 := ci BK103.out 0 a0_0 rfl; have hcz22_1 : w21.cell? ⟨gb103, 1, none⟩ = some (.string a0_1) := cb BK103 1; have hcz22_2 := ci BK103.out 2 a0_2 rfl; have hcz22_3 := ci BK103.out 3 a0_3 rfl; have hcz22_4 := ci BK103.out 4 a0_4 rfl; have hcz22_5 := ci BK103.out 5 a0_5 rfl; have hfz22_0 := fun j_ : Nat => blk_frozen BK103.out j_) | ((with_reducible refine gC 67 ?_); refine lA (some 5) Tryd.func67 (spec_l1In.calls a0_0 1 99 true _ A2.out) ?_; rintro _ ⟨nd, rfl⟩) | (go_at_call 66; (with_reducible refine (spec_l2Word.calls k a0_1 false _ A4.out).mono ?_); rintro e w' ⟨rfl, ⟨nd, rfl⟩⟩))
   go_ret
   exact ⟨eB, (bW HB)⟩
 ·replace H := iF (by decide) H
  obtain rfl := Option.some.inj H
  go_enter Tryd.func53, Tryd.ntmps53
  go_wp2_with (first | ((with_reducible refine gD 1 ?_); refine bxE 1 26 #[.int .i64 a0_0, .string a0_1, .int .i64 a0_2, .int .i64 a0_3, .int .i64 a0_4, .int .i64 a0_5] fun gb103 w23 hg hbox hb => ?_; have BK103 := Aside0.mk hbox; have GE103 := gB HB hg; replace HB := uB HB hb; clear hb hbox hg; have hcz24_0 := ci BK103.out 0 a0_0 rfl; have hcz24_1 : w23.cell? ⟨gb103, 1, none⟩ = some (.string a0_1) := cb BK103 1; have hcz24_2 := ci BK103.out 2 a0_2 rfl; have hcz24_3 := ci BK103.out 3 a0_3 rfl; have hcz24_4 := ci BK103.out 4 a0_4 rfl; have hcz24_5 := ci BK103.out 5 a0_5 rfl; have hfz24_0 := fun j_ : Nat => blk_frozen BK103.out j_) | ((with_reducible refine gC 67 ?_); refine lA (some 5) Tryd.func67 (spec_l1In.calls a0_0 1 99 false _ A2.out) ?_; rintro _ ⟨nd, rfl⟩))
  go_ret
  exact ⟨eB, (bW HB)⟩

/-! ### spec_l22Holds: function 70 -/
def spec_l22Holds.f (a0_0 : Int) (a0_1 : ByteArray) (a0_2 a0_3 a0_4 a0_5 : Int) : Option (Bool) := if a0_5 = 1 then (some true) else (some (a0_5 == 3))
set_option maxHeartbeats 8000000 in
set_option maxRecDepth 100000 in
theorem spec_l22Holds.calls (a0_0 : Int) (a0_1 : ByteArray) (a0_2 a0_3 a0_4 a0_5 : Int) (r : Bool) (w : World) (h : spec_l22Holds.f a0_0 a0_1 a0_2 a0_3 a0_4 a0_5 = some r) :
  Calls Tryd.prog 70 #[.agg #[.int .i64 a0_0, .string a0_1, .int .i64 a0_2, .int .i64 a0_3, .int .i64 a0_4, .int .i64 a0_5]] w fun e w' => e = .returned (.bool r) ∧ Below w.heap.size w w' := by
 have hu26 := Tryd.underlying26
 have HB := Aside0.mk (Below.refl w.heap.size w)
 have H := h
 clear h
 unfold spec_l22Holds.f at H
 replace H := ifI H
 rcases H with ⟨H, -, c2b0, c2b1⟩ | ⟨H, c2, c2b0, c2b1⟩
 ·obtain rfl := Option.some.inj H
  go_enter Tryd.func70, Tryd.ntmps70
  go_wp2_with (first | ((with_reducible refine gD 1 ?_); refine bxE 1 26 #[.int .i64 a0_0, .string a0_1, .int .i64 a0_2, .int .i64 a0_3, .int .i64 a0_4, .int .i64 a0_5] fun gb110 w3 hg hbox hb => ?_; have BK110 := Aside0.mk hbox; have GE110 := gB HB hg; replace HB := uB HB hb; clear hb hbox hg; have hcz4_0 := ci BK110.out 0 a0_0 rfl; have hcz4_1 : w3.cell? ⟨gb110, 1, none⟩ = some (.string a0_1) := cb BK110 1; have hcz4_2 := ci BK110.out 2 a0_2 rfl; have hcz4_3 := ci BK110.out 3 a0_3 rfl; have hcz4_4 := ci BK110.out 4 a0_4 rfl; have hcz4_5 := ci BK110.out 5 a0_5 rfl; have hfz4_0 := fun j_ : Nat => blk_frozen BK110.out j_))
  go_ret
  exact ⟨eB, (bW HB)⟩
 ·obtain rfl := Option.some.inj H
  go_enter Tryd.func70, Tryd.ntmps70
  go_wp2_with (first | ((with_reducible refine gD 1 ?_); refine bxE 1 26 #[.int .i64 a0_0, .string a0_1, .int .i64 a0_2, .int .i64 a0_3, .int .i64 a0_4, .int .i64 a0_5] fun gb110 w5 hg hbox hb => ?_; have BK110 := Aside0.mk hbox; have GE110 := gB HB hg; replace HB := uB HB hb; clear hb hbox hg; have hcz6_0 := ci BK110.out 0 a0_0 rfl; have hcz6_1 : w5.cell? ⟨gb110, 1, none⟩ = some (.string a0_1) := cb BK110 1; have hcz6_2 := ci BK110.out 2 a0_2 rfl; have hcz6_3 := ci BK110.out 3 a0_3 rfl; have hcz6_4 := ci BK110.out 4 a0_4 rfl; have hcz6_5 := ci BK110.out 5 a0_5 rfl; have hfz6_0 := fun j_ : Nat => blk_frozen BK110.out j_))
  go_ret
  exact ⟨eB, (bW HB)⟩

/-! ### spec_l22Conflict: function 91 -/
def spec_l22Conflict.f (a0_0 : Int) (a0_1 : ByteArray) (a0_2 a0_3 a0_4 a0_5 a1_0 : Int) (a1_1 : ByteArray) (a1_2 a1_3 a1_4 a1_5 : Int) : Option (Bool) := if a0_1.toList = a1_1.toList then (if a0_2 ≤ a1_3 then (if a1_2 ≤ a0_3 then ((spec_l22Holds.f a0_0 a0_1 a0_2 a0_3 a0_4 a0_5).bind fun t113 => (if t113 = true then ((spec_l22Holds.f a1_0 a1_1 a1_2 a1_3 a1_4 a1_5).bind fun t114 => (some t114)) else (some false))) else (some false)) else (some false)) else (some false)
set_option maxHeartbeats 8000000 in
set_option maxRecDepth 100000 in
theorem spec_l22Conflict.calls (a0_0 : Int) (a0_1 : ByteArray) (a0_2 a0_3 a0_4 a0_5 a1_0 : Int) (a1_1 : ByteArray) (a1_2 a1_3 a1_4 a1_5 : Int) (r : Bool) (w : World) (h : spec_l22Conflict.f a0_0 a0_1 a0_2 a0_3 a0_4 a0_5 a1_0 a1_1 a1_2 a1_3 a1_4 a1_5 = some r) :
  Calls Tryd.prog 91 #[.agg #[.int .i64 a0_0, .string a0_1, .int .i64 a0_2, .int .i64 a0_3, .int .i64 a0_4, .int .i64 a0_5], .agg #[.int .i64 a1_0, .string a1_1, .int .i64 a1_2, .int .i64 a1_3, .int .i64 a1_4, .int .i64 a1_5]] w fun e w' => e = .returned (.bool r) ∧ Below w.heap.size w w' := by
 have hu26 := Tryd.underlying26
 have HB := Aside0.mk (Below.refl w.heap.size w)
 have H := h
 clear h
 unfold spec_l22Conflict.f at H
 replace H := ifI H
 rcases H with ⟨H, -, c3b0, c3b1⟩ | ⟨H, c3, c3b0, c3b1⟩
 ·replace H := ifD H
  rcases H with ⟨H, -, c4b0⟩ | ⟨H, -, c4b0⟩
  ·replace H := ifD H
   rcases H with ⟨H, -, c5b0⟩ | ⟨H, -, c5b0⟩
   ·replace H := bA H
    obtain ⟨t113, A6, H⟩ := H
    rcases Bool.eq_false_or_eq_true t113 with rfl | rfl
    ·replace H := iT rfl H
     replace H := bA H
     obtain ⟨t114, A8, H⟩ := H
     obtain rfl := Option.some.inj H
     go_enter Tryd.func91, Tryd.ntmps91
     go_wp2_with (first | ((with_reducible refine gD 2 ?_); refine bxE 2 26 #[.int .i64 a0_0, .string a0_1, .int .i64 a0_2, .int .i64 a0_3, .int .i64 a0_4, .int .i64 a0_5] fun gb111 w9 hg hbox hb => ?_; have BK111 := Aside0.mk hbox; have GE111 := gB HB hg; replace HB := uB HB hb; clear hb hbox hg) | ((with_reducible refine gD 3 ?_); refine bxE 3 26 #[.int .i64 a1_0, .string a1_1, .int .i64 a1_2, .int .i64 a1_3, .int .i64 a1_4, .int .i64 a1_5] fun gb112 w10 hg hbox hb => ?_; have BK112 := Aside0.mk hbox; have GE112 := gB HB hg; have ⟨NB111_112, NB112_111⟩ := nB BK111 hg; replace BK111 := uK BK111 hb; replace HB := uB HB hb; clear hb hbox hg; have hnb11 := NB111_112.out; have hnc11 := NB112_111.out; have hcz12_0 := ci BK111.out 0 a0_0 rfl; have hcz12_1 : w10.cell? ⟨gb111, 1, none⟩ = some (.string a0_1) := cb BK111 1; have hcz12_2 := ci BK111.out 2 a0_2 rfl; have hcz12_3 := ci BK111.out 3 a0_3 rfl; have hcz12_4 := ci BK111.out 4 a0_4 rfl; have hcz12_5 := ci BK111.out 5 a0_5 rfl; have hfz12_0 := fun j_ : Nat => blk_frozen BK111.out j_; have hcz13_0 := ci BK112.out 0 a1_0 rfl; have hcz13_1 : w10.cell? ⟨gb112, 1, none⟩ = some (.string a1_1) := cb BK112 1; have hcz13_2 := ci BK112.out 2 a1_2 rfl; have hcz13_3 := ci BK112.out 3 a1_3 rfl; have hcz13_4 := ci BK112.out 4 a1_4 rfl; have hcz13_5 := ci BK112.out 5 a1_5 rfl; have hfz13_0 := fun j_ : Nat => blk_frozen BK112.out j_) | (go_at_call 70; (with_reducible refine (spec_l22Holds.calls a0_0 a0_1 a0_2 a0_3 a0_4 a0_5 true _ A6.out).mono ?_); rintro e w14 ⟨rfl, hb⟩; replace BK111 := uK BK111 hb; replace BK112 := uK BK112 hb; replace HB := uB HB hb; (try clear hb); have hcz15_0 := ci BK112.out 0 a1_0 rfl; have hcz15_1 : w14.cell? ⟨gb112, 1, none⟩ = some (.string a1_1) := cb BK112 1; have hcz15_2 := ci BK112.out 2 a1_2 rfl; have hcz15_3 := ci BK112.out 3 a1_3 rfl; have hcz15_4 := ci BK112.out 4 a1_4 rfl; have hcz15_5 := ci BK112.out 5 a1_5 rfl; have hfz15_0 := fun j_ : Nat => blk_frozen BK112.out j_) | (go_at_call 70; (with_reducible refine (spec_l22Holds.calls a1_0 a1_1 a1_2 a1_3 a1_4 a1_5 t114 _ A8.out).mono ?_); rintro e w16 ⟨rfl, hb⟩; replace BK111 := uK BK111 hb; replace BK112 := uK BK112 hb; replace HB := uB HB hb; (try clear hb)))
     go_ret
     exact ⟨eB, (bW HB)⟩
    ·replace H := iF (by decide) H
     obtain rfl := Option.some.inj H
     go_enter Tryd.func91, Tryd.ntmps91
     go_wp2_with (first | ((with_reducible refine gD 2 ?_); refine bxE 2 26 #[.int .i64 a0_0, .string a0_1, .int .i64 a0_2, .int .i64 a0_3, .int .i64 a0_4, .int .i64 a0_5] fun gb111 w17 hg hbox hb => ?_; have BK111 := Aside0.mk hbox; have GE111 := gB HB hg; replace HB := uB HB hb; clear hb hbox hg) | ((with_reducible refine gD 3 ?_); refine bxE 3 26 #[.int .i64 a1_0, .string a1_1, .int .i64 a1_2, .int .i64 a1_3, .int .i64 a1_4, .int .i64 a1_5] fun gb112 w18 hg hbox hb => ?_; have BK112 := Aside0.mk hbox; have GE112 := gB HB hg; have ⟨NB111_112, NB112_111⟩ := nB BK111 hg; replace BK111 := uK BK111 hb; replace HB := uB HB hb; clear hb hbox hg; have hnb19 := NB111_112.out; have hnc19 := NB112_111.out; have hcz20_0 := ci BK111.out 0 a0_0 rfl; have hcz20_1 : w18.cell? ⟨gb111, 1, none⟩ = some (.string a0_1) := cb BK111 1; have hcz20_2 := ci BK111.out 2 a0_2 rfl; have hcz20_3 := ci BK111.out 3 a0_3 rfl; have hcz20_4 := ci BK111.out 4 a0_4 rfl; have hcz20_5 := ci BK111.out 5 a0_5 rfl; have hfz20_0 := fun j_ : Nat => blk_frozen BK111.out j_; have hcz21_0 := ci BK112.out 0 a1_0 rfl; have hcz21_1 : w18.cell? ⟨gb112, 1, none⟩ = some (.string a1_1) := cb BK112 1; have hcz21_2 := ci BK112.out 2 a1_2 rfl; have hcz21_3 := ci BK112.out 3 a1_3 rfl; have hcz21_4 := ci BK112.out 4 a1_4 rfl; have hcz21_5 := ci BK112.out 5 a1_5 rfl; have hfz21_0 := fun j_ : Nat => blk_frozen BK112.out j_) | (go_at_call 70; (with_reducible refine (spec_l22Holds.calls a0_0 a0_1 a0_2 a0_3 a0_4 a0_5 false _ A6.out).mono ?_); rintro e w22 ⟨rfl, hb⟩; replace BK111 := uK BK111 hb; replace BK112 := uK BK112 hb; replace HB := uB HB hb; (try clear hb)))
     go_ret
     exact ⟨eB, (bW HB)⟩
   ·obtain rfl := Option.some.inj H
    go_enter Tryd.func91, Tryd.ntmps91
    go_wp2_with (first | ((with_reducible refine gD 2 ?_); refine bxE 2 26 #[.int .i64 a0_0, .string a0_1, .int .i64 a0_2, .int .i64 a0_3, .int .i64 a0_4, .int .i64 a0_5] fun gb111 w23 hg hbox hb => ?_; have BK111 := Aside0.mk hbox; have GE111 := gB HB hg; replace HB := uB HB hb; clear hb hbox hg) | ((with_reducible refine gD 3 ?_); refine bxE 3 26 #[.int .i64 a1_0, .string a1_1, .int .i64 a1_2, .int .i64 a1_3, .int .i64 a1_4, .int .i64 a1_5] fun gb112 w24 hg hbox hb => ?_; have BK112 := Aside0.mk hbox; have GE112 := gB HB hg; have ⟨NB111_112, NB112_111⟩ := nB BK111 hg; replace BK111 := uK BK111 hb; replace HB := uB HB hb; clear hb hbox hg; have hnb25 := NB111_112.out; have hnc25 := NB112_111.out; have hcz26_0 := ci BK111.out 0 a0_0 rfl; have hcz26_1 : w24.cell? ⟨gb111, 1, none⟩ = some (.string a0_1) := cb BK111 1; have hcz26_2 := ci BK111.out 2 a0_2 rfl; have hcz26_3 := ci BK111.out 3 a0_3 rfl; have hcz26_4 := ci BK111.out 4 a0_4 rfl; have hcz26_5 := ci BK111.out 5 a0_5 rfl; have hfz26_0 := fun j_ : Nat => blk_frozen BK111.out j_; have hcz27_0 := ci BK112.out 0 a1_0 rfl; have hcz27_1 : w24.cell? ⟨gb112, 1, none⟩ = some (.string a1_1) := cb BK112 1; have hcz27_2 := ci BK112.out 2 a1_2 rfl; have hcz27_3 := ci BK112.out 3 a1_3 rfl; have hcz27_4 := ci BK112.out 4 a1_4 rfl; have hcz27_5 := ci BK112.out 5 a1_5 rfl; have hfz27_0 := fun j_ : Nat => blk_frozen BK112.out j_))
    go_ret
    exact ⟨eB, (bW HB)⟩
  ·obtain rfl := Option.some.inj H
   go_enter Tryd.func91, Tryd.ntmps91
   go_wp2_with (first | ((with_reducible refine gD 2 ?_); refine bxE 2 26 #[.int .i64 a0_0, .string a0_1, .int .i64 a0_2, .int .i64 a0_3, .int .i64 a0_4, .int .i64 a0_5] fun gb111 w28 hg hbox hb => ?_; have BK111 := Aside0.mk hbox; have GE111 := gB HB hg; replace HB := uB HB hb; clear hb hbox hg) | ((with_reducible refine gD 3 ?_); refine bxE 3 26 #[.int .i64 a1_0, .string a1_1, .int .i64 a1_2, .int .i64 a1_3, .int .i64 a1_4, .int .i64 a1_5] fun gb112 w29 hg hbox hb => ?_; have BK112 := Aside0.mk hbox; have GE112 := gB HB hg; have ⟨NB111_112, NB112_111⟩ := nB BK111 hg; replace BK111 := uK BK111 hb; replace HB := uB HB hb; clear hb hbox hg; have hnb30 := NB111_112.out; have hnc30 := NB112_111.out; have hcz31_0 := ci BK111.out 0 a0_0 rfl; have hcz31_1 : w29.cell? ⟨gb111, 1, none⟩ = some (.string a0_1) := cb BK111 1; have hcz31_2 := ci BK111.out 2 a0_2 rfl; have hcz31_3 := ci BK111.out 3 a0_3 rfl; have hcz31_4 := ci BK111.out 4 a0_4 rfl; have hcz31_5 := ci BK111.out 5 a0_5 rfl; have hfz31_0 := fun j_ : Nat => blk_frozen BK111.out j_; have hcz32_0 := ci BK112.out 0 a1_0 rfl; have hcz32_1 : w29.cell? ⟨gb112, 1, none⟩ = some (.string a1_1) := cb BK112 1; have hcz32_2 := ci BK112.out 2 a1_2 rfl; have hcz32_3 := ci BK112.out 3 a1_3 rfl; have hcz32_4 := ci BK112.out 4 a1_4 rfl; have hcz32_5 := ci BK112.out 5 a1_5 rfl; have hfz32_0 := fun j_ : Nat => blk_frozen BK112.out j_))
   go_ret
   exact ⟨eB, (bW HB)⟩
 ·obtain rfl := Option.some.inj H
  go_enter Tryd.func91, Tryd.ntmps91
  go_wp2_with (first | ((with_reducible refine gD 2 ?_); refine bxE 2 26 #[.int .i64 a0_0, .string a0_1, .int .i64 a0_2, .int .i64 a0_3, .int .i64 a0_4, .int .i64 a0_5] fun gb111 w33 hg hbox hb => ?_; have BK111 := Aside0.mk hbox; have GE111 := gB HB hg; replace HB := uB HB hb; clear hb hbox hg) | ((with_reducible refine gD 3 ?_); refine bxE 3 26 #[.int .i64 a1_0, .string a1_1, .int .i64 a1_2, .int .i64 a1_3, .int .i64 a1_4, .int .i64 a1_5] fun gb112 w34 hg hbox hb => ?_; have BK112 := Aside0.mk hbox; have GE112 := gB HB hg; have ⟨NB111_112, NB112_111⟩ := nB BK111 hg; replace BK111 := uK BK111 hb; replace HB := uB HB hb; clear hb hbox hg; have hnb35 := NB111_112.out; have hnc35 := NB112_111.out; have hcz36_0 := ci BK111.out 0 a0_0 rfl; have hcz36_1 : w34.cell? ⟨gb111, 1, none⟩ = some (.string a0_1) := cb BK111 1; have hcz36_2 := ci BK111.out 2 a0_2 rfl; have hcz36_3 := ci BK111.out 3 a0_3 rfl; have hcz36_4 := ci BK111.out 4 a0_4 rfl; have hcz36_5 := ci BK111.out 5 a0_5 rfl; have hfz36_0 := fun j_ : Nat => blk_frozen BK111.out j_; have hcz37_0 := ci BK112.out 0 a1_0 rfl; have hcz37_1 : w34.cell? ⟨gb112, 1, none⟩ = some (.string a1_1) := cb BK112 1; have hcz37_2 := ci BK112.out 2 a1_2 rfl; have hcz37_3 := ci BK112.out 3 a1_3 rfl; have hcz37_4 := ci BK112.out 4 a1_4 rfl; have hcz37_5 := ci BK112.out 5 a1_5 rfl; have hfz37_0 := fun j_ : Nat => blk_frozen BK112.out j_))
  go_ret
  exact ⟨eB, (bW HB)⟩

end Go.Proofs.YtgeioccfjgpijaaDoor.QFnPermits
