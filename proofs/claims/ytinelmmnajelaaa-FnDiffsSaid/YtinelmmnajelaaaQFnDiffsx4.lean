/- Contracts of Go functions that FnDiffs reaches: the call computes what the plain function says. No condition. -/
import Derived.Test.YtinelmmnajelaaaQFnDiffsx0
namespace Go.Proofs.Ytinelmmnajelaaa.QFnDiffs
open Go.RowKit Go.Proofs.YtinelmmnajelaaaW.PrintWords Go.Proofs.YtinelmmnajelaaaW.PrintLast Go.Proofs.YtinelmmnajelaaaW.PrintMore
attribute [local go_sem] max2_int min2_int max_two min_two max_three min_three max_four min_four   -- for this text's walks alone
set_option linter.unusedVariables false
set_option linter.unusedSimpArgs false

/-! ### spec_l1In: function 70 -/
def spec_l1In.f (a0 a1 a2 : Int) : Option (Bool) := if a0 ≥ a1 then (some (decide (a0 ≤ a2))) else (some false)
set_option maxHeartbeats 8000000 in
set_option maxRecDepth 100000 in
theorem spec_l1In.calls (a0 a1 a2 : Int) (r : Bool) (w : World) (h : spec_l1In.f a0 a1 a2 = some r) :
  Calls Try.prog 70 #[.int .i64 a0, .int .i64 a1, .int .i64 a2] w fun e w' => e = .returned (.bool r) ∧ Drawn0 w w' := by
 have H := h
 clear h
 unfold spec_l1In.f at H
 replace H := ifD H
 rcases H with ⟨H, -, c4b0⟩ | ⟨H, -, c4b0⟩
 ·obtain rfl := Option.some.inj H
  go_enter Try.func70, Try.ntmps70
  go_wp2
  go_ret
  exact ⟨rB, by repeat (first | exact Drawn0.refl _ | apply Drawn0.step)⟩
 ·obtain rfl := Option.some.inj H
  go_enter Try.func70, Try.ntmps70
  go_wp2
  go_ret
  exact ⟨rB, by repeat (first | exact Drawn0.refl _ | apply Drawn0.step)⟩

/-! ### spec_l4Station: function 73 -/
def spec_l4Station.f (a0 : Int) : Option (Bool) := (spec_l1In.f a0 0 7).bind fun t101 => (some t101)
set_option maxHeartbeats 8000000 in
set_option maxRecDepth 100000 in
theorem spec_l4Station.calls (a0 : Int) (r : Bool) (w : World) (h : spec_l4Station.f a0 = some r) :
  Calls Try.prog 73 #[.int .i64 a0] w fun e w' => e = .returned (.bool r) ∧ Drawn0 w w' := by
 have H := h
 clear h
 unfold spec_l4Station.f at H
 replace H := bA H
 obtain ⟨t101, A2, H⟩ := H
 obtain rfl := Option.some.inj H
 go_enter Try.func73, Try.ntmps73
 go_wp2_with (first | ((with_reducible refine gC 70 ?_); refine lA (some 4) Try.func70 (spec_l1In.calls a0 0 7 t101 _ A2.out) ?_; rintro _ ⟨nd, rfl⟩))
 go_ret
 exact ⟨rB, by repeat (first | exact Drawn0.refl _ | apply Drawn0.step)⟩

/-! ### spec_l2Bearing: function 97 -/
def spec_l2Bearing.f (a0 : Int) : Option (Bool) := (spec_l1In.f a0 0 359).bind fun t102 => (some t102)
set_option maxHeartbeats 8000000 in
set_option maxRecDepth 100000 in
theorem spec_l2Bearing.calls (a0 : Int) (r : Bool) (w : World) (h : spec_l2Bearing.f a0 = some r) :
  Calls Try.prog 97 #[.int .i64 a0] w fun e w' => e = .returned (.bool r) ∧ Drawn0 w w' := by
 have H := h
 clear h
 unfold spec_l2Bearing.f at H
 replace H := bA H
 obtain ⟨t102, A2, H⟩ := H
 obtain rfl := Option.some.inj H
 go_enter Try.func97, Try.ntmps97
 go_wp2_with (first | ((with_reducible refine gC 70 ?_); refine lA (some 4) Try.func70 (spec_l1In.calls a0 0 359 t102 _ A2.out) ?_; rintro _ ⟨nd, rfl⟩))
 go_ret
 exact ⟨rB, by repeat (first | exact Drawn0.refl _ | apply Drawn0.step)⟩

/-! ### spec_l4Leg: function 88 -/
def spec_l4Leg.f (a0_0 a0_1 a0_2 a0_3 a0_4 : Int) : Option (Bool) := (spec_l4Station.f a0_0).bind fun t104 => (if t104 = true then ((spec_l4Station.f a0_1).bind fun t105 => (if t105 = true then (if a0_0 = a0_1 then (some false) else ((spec_l1In.f a0_2 1 500).bind fun t106 => (if t106 = true then ((spec_l2Bearing.f a0_3).bind fun t107 => (if t107 = true then ((spec_l1In.f a0_4 (-90) 90).bind fun t108 => (some t108)) else (some false))) else (some false)))) else (some false))) else (some false))
set_option maxHeartbeats 8000000 in
set_option maxRecDepth 100000 in
theorem spec_l4Leg.calls (a0_0 a0_1 a0_2 a0_3 a0_4 : Int) (r : Bool) (w : World) (h : spec_l4Leg.f a0_0 a0_1 a0_2 a0_3 a0_4 = some r) :
  Calls Try.prog 88 #[.agg #[.int .i64 a0_0, .int .i64 a0_1, .int .i64 a0_2, .int .i64 a0_3, .int .i64 a0_4]] w fun e w' => e = .returned (.bool r) ∧ Below w.heap.size w w' := by
 have hu26 := Try.underlying26
 have HB := Aside0.mk (Below.refl w.heap.size w)
 have H := h
 clear h
 unfold spec_l4Leg.f at H
 replace H := bA H
 obtain ⟨t104, A2, H⟩ := H
 rcases Bool.eq_false_or_eq_true t104 with rfl | rfl
 ·replace H := iT rfl H
  replace H := bA H
  obtain ⟨t105, A4, H⟩ := H
  rcases Bool.eq_false_or_eq_true t105 with rfl | rfl
  ·replace H := iT rfl H
   replace H := ifI H
   rcases H with ⟨H, -, c6b0, c6b1⟩ | ⟨H, c6, c6b0, c6b1⟩
   ·obtain rfl := Option.some.inj H
    go_enter Try.func88, Try.ntmps88
    go_wp2_with (first | ((with_reducible refine gD 1 ?_); refine bxE 1 26 #[.int .i64 a0_0, .int .i64 a0_1, .int .i64 a0_2, .int .i64 a0_3, .int .i64 a0_4] fun gb103 w7 hg hbox hb => ?_; have BK103 := Aside0.mk hbox; have GE103 := gB HB hg; replace HB := uB HB hb; clear hb hbox hg; have ⟨hcz8_0, hcz8_1, hcz8_2, hcz8_3, hcz8_4, hfz8_0⟩ := cz5 BK103) | ((with_reducible refine gC 73 ?_); refine lA (some 5) Try.func73 (spec_l4Station.calls a0_0 true _ A2.out) ?_; rintro _ ⟨nd, rfl⟩) | (go_at_call 73; (with_reducible refine (spec_l4Station.calls a0_1 true _ A4.out).mono ?_); rintro e w' ⟨rfl, ⟨nd, rfl⟩⟩))
    go_ret
    exact ⟨eB, (bW HB)⟩
   ·replace H := bA H
    obtain ⟨t106, A9, H⟩ := H
    rcases Bool.eq_false_or_eq_true t106 with rfl | rfl
    ·replace H := iT rfl H
     replace H := bA H
     obtain ⟨t107, A11, H⟩ := H
     rcases Bool.eq_false_or_eq_true t107 with rfl | rfl
     ·replace H := iT rfl H
      replace H := bA H
      obtain ⟨t108, A13, H⟩ := H
      obtain rfl := Option.some.inj H
      go_enter Try.func88, Try.ntmps88
      go_wp2_with (first | ((with_reducible refine gD 1 ?_); refine bxE 1 26 #[.int .i64 a0_0, .int .i64 a0_1, .int .i64 a0_2, .int .i64 a0_3, .int .i64 a0_4] fun gb103 w14 hg hbox hb => ?_; have BK103 := Aside0.mk hbox; have GE103 := gB HB hg; replace HB := uB HB hb; clear hb hbox hg; have ⟨hcz15_0, hcz15_1, hcz15_2, hcz15_3, hcz15_4, hfz15_0⟩ := cz5 BK103) | ((with_reducible refine gC 73 ?_); refine lA (some 5) Try.func73 (spec_l4Station.calls a0_0 true _ A2.out) ?_; rintro _ ⟨nd, rfl⟩) | (go_at_call 73; (with_reducible refine (spec_l4Station.calls a0_1 true _ A4.out).mono ?_); rintro e w' ⟨rfl, ⟨nd, rfl⟩⟩) | (go_at_call 70; (with_reducible refine (spec_l1In.calls a0_2 1 500 true _ A9.out).mono ?_); rintro e w' ⟨rfl, ⟨nd, rfl⟩⟩) | (go_at_call 97; (with_reducible refine (spec_l2Bearing.calls a0_3 true _ A11.out).mono ?_); rintro e w' ⟨rfl, ⟨nd, rfl⟩⟩) | (go_at_call 70; (with_reducible refine (spec_l1In.calls a0_4 (-90) 90 t108 _ A13.out).mono ?_); rintro e w' ⟨rfl, ⟨nd, rfl⟩⟩))
      go_ret
      exact ⟨eB, (bW HB)⟩
     ·replace H := iF (by decide) H
      obtain rfl := Option.some.inj H
      go_enter Try.func88, Try.ntmps88
      go_wp2_with (first | ((with_reducible refine gD 1 ?_); refine bxE 1 26 #[.int .i64 a0_0, .int .i64 a0_1, .int .i64 a0_2, .int .i64 a0_3, .int .i64 a0_4] fun gb103 w16 hg hbox hb => ?_; have BK103 := Aside0.mk hbox; have GE103 := gB HB hg; replace HB := uB HB hb; clear hb hbox hg; have ⟨hcz17_0, hcz17_1, hcz17_2, hcz17_3, hcz17_4, hfz17_0⟩ := cz5 BK103) | ((with_reducible refine gC 73 ?_); refine lA (some 5) Try.func73 (spec_l4Station.calls a0_0 true _ A2.out) ?_; rintro _ ⟨nd, rfl⟩) | (go_at_call 73; (with_reducible refine (spec_l4Station.calls a0_1 true _ A4.out).mono ?_); rintro e w' ⟨rfl, ⟨nd, rfl⟩⟩) | (go_at_call 70; (with_reducible refine (spec_l1In.calls a0_2 1 500 true _ A9.out).mono ?_); rintro e w' ⟨rfl, ⟨nd, rfl⟩⟩) | (go_at_call 97; (with_reducible refine (spec_l2Bearing.calls a0_3 false _ A11.out).mono ?_); rintro e w' ⟨rfl, ⟨nd, rfl⟩⟩))
      go_ret
      exact ⟨eB, (bW HB)⟩
    ·replace H := iF (by decide) H
     obtain rfl := Option.some.inj H
     go_enter Try.func88, Try.ntmps88
     go_wp2_with (first | ((with_reducible refine gD 1 ?_); refine bxE 1 26 #[.int .i64 a0_0, .int .i64 a0_1, .int .i64 a0_2, .int .i64 a0_3, .int .i64 a0_4] fun gb103 w18 hg hbox hb => ?_; have BK103 := Aside0.mk hbox; have GE103 := gB HB hg; replace HB := uB HB hb; clear hb hbox hg; have ⟨hcz19_0, hcz19_1, hcz19_2, hcz19_3, hcz19_4, hfz19_0⟩ := cz5 BK103) | ((with_reducible refine gC 73 ?_); refine lA (some 5) Try.func73 (spec_l4Station.calls a0_0 true _ A2.out) ?_; rintro _ ⟨nd, rfl⟩) | (go_at_call 73; (with_reducible refine (spec_l4Station.calls a0_1 true _ A4.out).mono ?_); rintro e w' ⟨rfl, ⟨nd, rfl⟩⟩) | (go_at_call 70; (with_reducible refine (spec_l1In.calls a0_2 1 500 false _ A9.out).mono ?_); rintro e w' ⟨rfl, ⟨nd, rfl⟩⟩))
     go_ret
     exact ⟨eB, (bW HB)⟩
  ·replace H := iF (by decide) H
   obtain rfl := Option.some.inj H
   go_enter Try.func88, Try.ntmps88
   go_wp2_with (first | ((with_reducible refine gD 1 ?_); refine bxE 1 26 #[.int .i64 a0_0, .int .i64 a0_1, .int .i64 a0_2, .int .i64 a0_3, .int .i64 a0_4] fun gb103 w20 hg hbox hb => ?_; have BK103 := Aside0.mk hbox; have GE103 := gB HB hg; replace HB := uB HB hb; clear hb hbox hg; have ⟨hcz21_0, hcz21_1, hcz21_2, hcz21_3, hcz21_4, hfz21_0⟩ := cz5 BK103) | ((with_reducible refine gC 73 ?_); refine lA (some 5) Try.func73 (spec_l4Station.calls a0_0 true _ A2.out) ?_; rintro _ ⟨nd, rfl⟩) | (go_at_call 73; (with_reducible refine (spec_l4Station.calls a0_1 false _ A4.out).mono ?_); rintro e w' ⟨rfl, ⟨nd, rfl⟩⟩))
   go_ret
   exact ⟨eB, (bW HB)⟩
 ·replace H := iF (by decide) H
  obtain rfl := Option.some.inj H
  go_enter Try.func88, Try.ntmps88
  go_wp2_with (first | ((with_reducible refine gD 1 ?_); refine bxE 1 26 #[.int .i64 a0_0, .int .i64 a0_1, .int .i64 a0_2, .int .i64 a0_3, .int .i64 a0_4] fun gb103 w22 hg hbox hb => ?_; have BK103 := Aside0.mk hbox; have GE103 := gB HB hg; replace HB := uB HB hb; clear hb hbox hg; have ⟨hcz23_0, hcz23_1, hcz23_2, hcz23_3, hcz23_4, hfz23_0⟩ := cz5 BK103) | ((with_reducible refine gC 73 ?_); refine lA (some 5) Try.func73 (spec_l4Station.calls a0_0 false _ A2.out) ?_; rintro _ ⟨nd, rfl⟩))
  go_ret
  exact ⟨eB, (bW HB)⟩

/-! ### spec_l4Legs: function 64 -/
def spec_l4Legs.l0 : Nat → List (S26) → Int → Option (Bool)
 | 0, _, _ => none
 | k + 1, x0, x3 => if x3 < (x0.length : Int) then (if 0 ≤ x3 then ((spec_l4Leg.f ((rd_T26 x0 x3).f0) ((rd_T26 x0 x3).f1) ((rd_T26 x0 x3).f2) ((rd_T26 x0 x3).f3) ((rd_T26 x0 x3).f4)).bind fun t110 => (if t110 = true then (spec_l4Legs.l0 k x0 (wrap64 (x3 + 1))) else (some false))) else (none)) else (some (decide ((x0.length : Int) ≤ 12)))
def spec_l4Legs.f (k : Nat) (l0 : List (S26)) : Option (Bool) := spec_l4Legs.l0 k l0 0
theorem spec_l4Legs.mono_l : ∀ k, (∀ y0 y1, LeO (spec_l4Legs.l0 k y0 y1) (spec_l4Legs.l0 (k + 1) y0 y1))
 | 0 => fun _ _ r h => by simp [spec_l4Legs.l0] at h
 | k + 1 => by
  have ih0 := spec_l4Legs.mono_l k
  ·intro y0 y1
   unfold spec_l4Legs.l0
   repeat' with_reducible first | apply ih0 | exact LeO.refl _ | exact LeO.none _ | refine LeO.ite ?_ ?_ | refine LeO.bind ?_ (fun _ => ?_)
theorem spec_l4Legs.mono : ∀ a0 k, LeO (spec_l4Legs.f k a0) (spec_l4Legs.f (k + 1) a0) := by
 intro a0 k
 have ih0 := spec_l4Legs.mono_l k
 unfold spec_l4Legs.f
 repeat' with_reducible first | apply ih0 | exact LeO.refl _ | exact LeO.none _ | refine LeO.ite ?_ ?_ | refine LeO.bind ?_ (fun _ => ?_)
set_option maxHeartbeats 8000000 in
set_option maxRecDepth 100000 in
theorem spec_l4Legs.calls (k : Nat) (A0 : Option Addr) (c0 : Nat) (l0 : List (S26)) (r : Bool) (w : World) (hr0 : Kd.C k26 w A0 l0.length l0) (hc0 : l0.length ≤ c0) (h : spec_l4Legs.f k l0 = some r) :
  Calls Try.prog 64 #[.slice A0 l0.length c0] w fun e w' => e = .returned (.bool r) ∧ Below w.heap.size w w' := by
 have hu26 := Try.underlying26
 have HR0 := Aside0.mk hr0
 have HC0 := Aside0.mk hc0
 clear hr0 hc0
 have HB := Aside0.mk (Below.refl w.heap.size w)
 have H : (spec_l4Legs.l0 k l0 0) = some r := h
 clear h
 have H' := Aside0.mk H
 clear H
 go_enter Try.func64, Try.ntmps64
 go_wp2
 go_loopg [3] k (fun kq v3 w' => ∃ (x3_1 : Int), v3 = .int .i64 x3_1 ∧ Aside0 (spec_l4Legs.l0 kq l0 x3_1 = some r) ∧ Aside0 (kq ≤ k) ∧ Aside0 (Below w.heap.size w w'))
 case atStart => exact ⟨(0), rB, H', ⟨Nat.le_refl _⟩, (aB HB)⟩
 case round =>
  clear H'
  obtain ⟨x3_1, rfl, HA, HK1, HB⟩ := hrel
  cases gk with
  | zero => exact absurd HA.out (by simp [spec_l4Legs.l0])
  | succ k1 =>
   have H := HA.out
   clear HA
   simp only [spec_l4Legs.l0] at H
   replace H := ifD H
   rcases H with ⟨H, -, c2b0⟩ | ⟨H, -, c2b0⟩
   ·by_cases c3 : 0 ≤ x3_1
    ·rw [if_pos c3] at H
     have c3b0 : decide (0 ≤ x3_1) = true := decide_eq_true c3
     clear c3
     replace H := bA H
     obtain ⟨t110, A4, H⟩ := H
     rcases Bool.eq_false_or_eq_true t110 with rfl | rfl
     ·replace H := iT rfl H
      have H' := Aside0.mk H
      clear H
      have p109 : 0 ≤ (x3_1 : Int) := of_decide_eq_true asmB
      have q109 : x3_1 < (l0.length : Int) := of_decide_eq_true asmB
      obtain ⟨ad109, e109, hx109_0, hx109_1, hx109_2, hx109_3, hx109_4⟩ := at_T26 HR0.out x3_1 p109 q109
      cases e109
      replace hx109_0 := bx HB.out hx109_0
      replace hx109_1 := bx HB.out hx109_1
      replace hx109_2 := bx HB.out hx109_2
      replace hx109_3 := bx HB.out hx109_3
      replace hx109_4 := bx HB.out hx109_4
      replace p109 := eq_true p109
      replace q109 := eq_true q109
      go_wp2_with (first | ((with_reducible refine gC 88 ?_); refine lA (some 14) Try.func88 (spec_l4Leg.calls ((rd_T26 l0 x3_1).f0) ((rd_T26 l0 x3_1).f1) ((rd_T26 l0 x3_1).f2) ((rd_T26 l0 x3_1).f3) ((rd_T26 l0 x3_1).f4) true _ A4.out) ?_; intro w6 hb; replace HB := uB HB hb; (try clear hb)))
      go_roundg k1
      case measure => have := HK1.out; omega
      case rel => exact ⟨(wrap64 (x3_1 + 1)), rB, H', ⟨by have := HK1.out; omega⟩, (aB HB)⟩
     ·replace H := iF (by decide) H
      obtain rfl := Option.some.inj H
      have p109 : 0 ≤ (x3_1 : Int) := of_decide_eq_true asmB
      have q109 : x3_1 < (l0.length : Int) := of_decide_eq_true asmB
      obtain ⟨ad109, e109, hx109_0, hx109_1, hx109_2, hx109_3, hx109_4⟩ := at_T26 HR0.out x3_1 p109 q109
      cases e109
      replace hx109_0 := bx HB.out hx109_0
      replace hx109_1 := bx HB.out hx109_1
      replace hx109_2 := bx HB.out hx109_2
      replace hx109_3 := bx HB.out hx109_3
      replace hx109_4 := bx HB.out hx109_4
      replace p109 := eq_true p109
      replace q109 := eq_true q109
      go_wp2_with (first | ((with_reducible refine gC 88 ?_); refine lA (some 14) Try.func88 (spec_l4Leg.calls ((rd_T26 l0 x3_1).f0) ((rd_T26 l0 x3_1).f1) ((rd_T26 l0 x3_1).f2) ((rd_T26 l0 x3_1).f3) ((rd_T26 l0 x3_1).f4) false _ A4.out) ?_; intro w7 hb; replace HB := uB HB hb; (try clear hb)))
      go_ret
      exact ⟨eB, (bW HB)⟩
    ·rw [if_neg c3] at H
     exact absurd H (by simp)
   ·obtain rfl := Option.some.inj H
    go_wp2
    go_ret
    exact ⟨eB, (bW HB)⟩

end Go.Proofs.Ytinelmmnajelaaa.QFnDiffs
