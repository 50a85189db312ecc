/- Contracts of Go functions that FnClubs reaches: the call computes what the plain function says. No condition. -/
import Derived.Test.YtfaojmabalplfaaQFnClubsx0
namespace Go.Proofs.Ytfaojmabalplfaa.QFnClubs
open Go.RowKit Go.Proofs.YtfaojmabalplfaaW.PrintWords Go.Proofs.YtfaojmabalplfaaW.PrintLast Go.Proofs.YtfaojmabalplfaaW.PrintMore
attribute [local go_sem] max2_int min2_int max_two min_two max_three min_three max_four min_four   -- for this text's walks alone
set_option linter.unusedVariables false
set_option linter.unusedSimpArgs false

/-! ### spec_l1In: function 105 -/
def spec_l1In.f (a0 a1 a2 : Int) : Option (Bool) := if a0 ≥ a1 then (some (decide (a0 ≤ a2))) else (some false)
set_option maxHeartbeats 8000000 in
set_option maxRecDepth 100000 in
theorem spec_l1In.calls (a0 a1 a2 : Int) (r : Bool) (w : World) (h : spec_l1In.f a0 a1 a2 = some r) :
  Calls Try.prog 105 #[.int .i64 a0, .int .i64 a1, .int .i64 a2] w fun e w' => e = .returned (.bool r) ∧ Drawn0 w w' := by
 have H := h
 clear h
 unfold spec_l1In.f at H
 replace H := ifD H
 rcases H with ⟨H, -, c4b0⟩ | ⟨H, -, c4b0⟩
 ·obtain rfl := Option.some.inj H
  go_enter Try.func105, Try.ntmps105
  go_wp2
  go_ret
  exact ⟨rB, by repeat (first | exact Drawn0.refl _ | apply Drawn0.step)⟩
 ·obtain rfl := Option.some.inj H
  go_enter Try.func105, Try.ntmps105
  go_wp2
  go_ret
  exact ⟨rB, by repeat (first | exact Drawn0.refl _ | apply Drawn0.step)⟩

/-! ### spec_l4Station: function 88 -/
def spec_l4Station.f (a0 : Int) : Option (Bool) := (spec_l1In.f a0 0 7).bind fun t101 => (some t101)
set_option maxHeartbeats 8000000 in
set_option maxRecDepth 100000 in
theorem spec_l4Station.calls (a0 : Int) (r : Bool) (w : World) (h : spec_l4Station.f a0 = some r) :
  Calls Try.prog 88 #[.int .i64 a0] w fun e w' => e = .returned (.bool r) ∧ Drawn0 w w' := by
 have H := h
 clear h
 unfold spec_l4Station.f at H
 replace H := bA H
 obtain ⟨t101, A2, H⟩ := H
 obtain rfl := Option.some.inj H
 go_enter Try.func88, Try.ntmps88
 go_wp2_with (first | ((with_reducible refine gC 105 ?_); refine lA (some 4) Try.func105 (spec_l1In.calls a0 0 7 t101 _ A2.out) ?_; rintro _ ⟨nd, rfl⟩))
 go_ret
 exact ⟨rB, by repeat (first | exact Drawn0.refl _ | apply Drawn0.step)⟩

/-! ### spec_l2Bearing: function 112 -/
def spec_l2Bearing.f (a0 : Int) : Option (Bool) := (spec_l1In.f a0 0 359).bind fun t102 => (some t102)
set_option maxHeartbeats 8000000 in
set_option maxRecDepth 100000 in
theorem spec_l2Bearing.calls (a0 : Int) (r : Bool) (w : World) (h : spec_l2Bearing.f a0 = some r) :
  Calls Try.prog 112 #[.int .i64 a0] w fun e w' => e = .returned (.bool r) ∧ Drawn0 w w' := by
 have H := h
 clear h
 unfold spec_l2Bearing.f at H
 replace H := bA H
 obtain ⟨t102, A2, H⟩ := H
 obtain rfl := Option.some.inj H
 go_enter Try.func112, Try.ntmps112
 go_wp2_with (first | ((with_reducible refine gC 105 ?_); refine lA (some 4) Try.func105 (spec_l1In.calls a0 0 359 t102 _ A2.out) ?_; rintro _ ⟨nd, rfl⟩))
 go_ret
 exact ⟨rB, by repeat (first | exact Drawn0.refl _ | apply Drawn0.step)⟩

/-! ### spec_l4Leg: function 92 -/
def spec_l4Leg.f (a0_0 a0_1 a0_2 a0_3 a0_4 : Int) : Option (Bool) := (spec_l4Station.f a0_0).bind fun t104 => (if t104 = true then ((spec_l4Station.f a0_1).bind fun t105 => (if t105 = true then (if a0_0 = a0_1 then (some false) else ((spec_l1In.f a0_2 1 500).bind fun t106 => (if t106 = true then ((spec_l2Bearing.f a0_3).bind fun t107 => (if t107 = true then ((spec_l1In.f a0_4 (-90) 90).bind fun t108 => (some t108)) else (some false))) else (some false)))) else (some false))) else (some false))
set_option maxHeartbeats 8000000 in
set_option maxRecDepth 100000 in
theorem spec_l4Leg.calls (a0_0 a0_1 a0_2 a0_3 a0_4 : Int) (r : Bool) (w : World) (h : spec_l4Leg.f a0_0 a0_1 a0_2 a0_3 a0_4 = some r) :
  Calls Try.prog 92 #[.agg #[.int .i64 a0_0, .int .i64 a0_1, .int .i64 a0_2, .int .i64 a0_3, .int .i64 a0_4]] w fun e w' => e = .returned (.bool r) ∧ Below w.heap.size w w' := by
 have hu70 := Try.underlying70
 have HB := Aside0.mk (Below.refl w.heap.size w)
 have H := h
 clear h
 unfold spec_l4Leg.f at H
 replace H := bA H
 obtain ⟨t104, A2, H⟩ := H
 rcases Bool.eq_false_or_eq_true t104 with rfl | rfl
 ·replace H := iT rfl H
  replace H := bA H
  obtain ⟨t105, A4, H⟩ := H
  rcases Bool.eq_false_or_eq_true t105 with rfl | rfl
  ·replace H := iT rfl H
   replace H := ifI H
   rcases H with ⟨H, -, c6b0, c6b1⟩ | ⟨H, c6, c6b0, c6b1⟩
   ·obtain rfl := Option.some.inj H
    go_enter Try.func92, Try.ntmps92
    go_wp2_with (first | ((with_reducible refine gD 1 ?_); refine bxE 1 70 #[.int .i64 a0_0, .int .i64 a0_1, .int .i64 a0_2, .int .i64 a0_3, .int .i64 a0_4] fun gb103 w7 hg hbox hb => ?_; have BK103 := Aside0.mk hbox; have GE103 := gB HB hg; replace HB := uB HB hb; clear hb hbox hg; have ⟨hcz8_0, hcz8_1, hcz8_2, hcz8_3, hcz8_4, hfz8_0⟩ := cz5 BK103) | ((with_reducible refine gC 88 ?_); refine lA (some 5) Try.func88 (spec_l4Station.calls a0_0 true _ A2.out) ?_; rintro _ ⟨nd, rfl⟩) | (go_at_call 88; (with_reducible refine (spec_l4Station.calls a0_1 true _ A4.out).mono ?_); rintro e w' ⟨rfl, ⟨nd, rfl⟩⟩))
    go_ret
    exact ⟨eB, (bW HB)⟩
   ·replace H := bA H
    obtain ⟨t106, A9, H⟩ := H
    rcases Bool.eq_false_or_eq_true t106 with rfl | rfl
    ·replace H := iT rfl H
     replace H := bA H
     obtain ⟨t107, A11, H⟩ := H
     rcases Bool.eq_false_or_eq_true t107 with rfl | rfl
     ·replace H := iT rfl H
      replace H := bA H
      obtain ⟨t108, A13, H⟩ := H
      obtain rfl := Option.some.inj H
      go_enter Try.func92, Try.ntmps92
      go_wp2_with (first | ((with_reducible refine gD 1 ?_); refine bxE 1 70 #[.int .i64 a0_0, .int .i64 a0_1, .int .i64 a0_2, .int .i64 a0_3, .int .i64 a0_4] fun gb103 w14 hg hbox hb => ?_; have BK103 := Aside0.mk hbox; have GE103 := gB HB hg; replace HB := uB HB hb; clear hb hbox hg; have ⟨hcz15_0, hcz15_1, hcz15_2, hcz15_3, hcz15_4, hfz15_0⟩ := cz5 BK103) | ((with_reducible refine gC 88 ?_); refine lA (some 5) Try.func88 (spec_l4Station.calls a0_0 true _ A2.out) ?_; rintro _ ⟨nd, rfl⟩) | (go_at_call 88; (with_reducible refine (spec_l4Station.calls a0_1 true _ A4.out).mono ?_); rintro e w' ⟨rfl, ⟨nd, rfl⟩⟩) | (go_at_call 105; (with_reducible refine (spec_l1In.calls a0_2 1 500 true _ A9.out).mono ?_); rintro e w' ⟨rfl, ⟨nd, rfl⟩⟩) | (go_at_call 112; (with_reducible refine (spec_l2Bearing.calls a0_3 true _ A11.out).mono ?_); rintro e w' ⟨rfl, ⟨nd, rfl⟩⟩) | (go_at_call 105; (with_reducible refine (spec_l1In.calls a0_4 (-90) 90 t108 _ A13.out).mono ?_); rintro e w' ⟨rfl, ⟨nd, rfl⟩⟩))
      go_ret
      exact ⟨eB, (bW HB)⟩
     ·replace H := iF (by decide) H
      obtain rfl := Option.some.inj H
      go_enter Try.func92, Try.ntmps92
      go_wp2_with (first | ((with_reducible refine gD 1 ?_); refine bxE 1 70 #[.int .i64 a0_0, .int .i64 a0_1, .int .i64 a0_2, .int .i64 a0_3, .int .i64 a0_4] fun gb103 w16 hg hbox hb => ?_; have BK103 := Aside0.mk hbox; have GE103 := gB HB hg; replace HB := uB HB hb; clear hb hbox hg; have ⟨hcz17_0, hcz17_1, hcz17_2, hcz17_3, hcz17_4, hfz17_0⟩ := cz5 BK103) | ((with_reducible refine gC 88 ?_); refine lA (some 5) Try.func88 (spec_l4Station.calls a0_0 true _ A2.out) ?_; rintro _ ⟨nd, rfl⟩) | (go_at_call 88; (with_reducible refine (spec_l4Station.calls a0_1 true _ A4.out).mono ?_); rintro e w' ⟨rfl, ⟨nd, rfl⟩⟩) | (go_at_call 105; (with_reducible refine (spec_l1In.calls a0_2 1 500 true _ A9.out).mono ?_); rintro e w' ⟨rfl, ⟨nd, rfl⟩⟩) | (go_at_call 112; (with_reducible refine (spec_l2Bearing.calls a0_3 false _ A11.out).mono ?_); rintro e w' ⟨rfl, ⟨nd, rfl⟩⟩))
      go_ret
      exact ⟨eB, (bW HB)⟩
    ·replace H := iF (by decide) H
     obtain rfl := Option.some.inj H
     go_enter Try.func92, Try.ntmps92
     go_wp2_with (first | ((with_reducible refine gD 1 ?_); refine bxE 1 70 #[.int .i64 a0_0, .int .i64 a0_1, .int .i64 a0_2, .int .i64 a0_3, .int .i64 a0_4] fun gb103 w18 hg hbox hb => ?_; have BK103 := Aside0.mk hbox; have GE103 := gB HB hg; replace HB := uB HB hb; clear hb hbox hg; have ⟨hcz19_0, hcz19_1, hcz19_2, hcz19_3, hcz19_4, hfz19_0⟩ := cz5 BK103) | ((with_reducible refine gC 88 ?_); refine lA (some 5) Try.func88 (spec_l4Station.calls a0_0 true _ A2.out) ?_; rintro _ ⟨nd, rfl⟩) | (go_at_call 88; (with_reducible refine (spec_l4Station.calls a0_1 true _ A4.out).mono ?_); rintro e w' ⟨rfl, ⟨nd, rfl⟩⟩) | (go_at_call 105; (with_reducible refine (spec_l1In.calls a0_2 1 500 false _ A9.out).mono ?_); rintro e w' ⟨rfl, ⟨nd, rfl⟩⟩))
     go_ret
     exact ⟨eB, (bW HB)⟩
  ·replace H := iF (by decide) H
   obtain rfl := Option.some.inj H
   go_enter Try.func92, Try.ntmps92
   go_wp2_with (first | ((with_reducible refine gD 1 ?_); refine bxE 1 70 #[.int .i64 a0_0, .int .i64 a0_1, .int .i64 a0_2, .int .i64 a0_3, .int .i64 a0_4] fun gb103 w20 hg hbox hb => ?_; have BK103 := Aside0.mk hbox; have GE103 := gB HB hg; replace HB := uB HB hb; clear hb hbox hg; have ⟨hcz21_0, hcz21_1, hcz21_2, hcz21_3, hcz21_4, hfz21_0⟩ := cz5 BK103) | ((with_reducible refine gC 88 ?_); refine lA (some 5) Try.func88 (spec_l4Station.calls a0_0 true _ A2.out) ?_; rintro _ ⟨nd, rfl⟩) | (go_at_call 88; (with_reducible refine (spec_l4Station.calls a0_1 false _ A4.out).mono ?_); rintro e w' ⟨rfl, ⟨nd, rfl⟩⟩))
   go_ret
   exact ⟨eB, (bW HB)⟩
 ·replace H := iF (by decide) H
  obtain rfl := Option.some.inj H
  go_enter Try.func92, Try.ntmps92
  go_wp2_with (first | ((with_reducible refine gD 1 ?_); refine bxE 1 70 #[.int .i64 a0_0, .int .i64 a0_1, .int .i64 a0_2, .int .i64 a0_3, .int .i64 a0_4] fun gb103 w22 hg hbox hb => ?_; have BK103 := Aside0.mk hbox; have GE103 := gB HB hg; replace HB := uB HB hb; clear hb hbox hg; have ⟨hcz23_0, hcz23_1, hcz23_2, hcz23_3, hcz23_4, hfz23_0⟩ := cz5 BK103) | ((with_reducible refine gC 88 ?_); refine lA (some 5) Try.func88 (spec_l4Station.calls a0_0 false _ A2.out) ?_; rintro _ ⟨nd, rfl⟩))
  go_ret
  exact ⟨eB, (bW HB)⟩

/-! ### spec_l4Legs: function 59 -/
def spec_l4Legs.l0 : Nat → List (S70) → Int → Option (Bool)
 | 0, _, _ => none
 | k + 1, x0, x3 => if x3 < (x0.length : Int) then (if 0 ≤ x3 then ((spec_l4Leg.f ((rd_T70 x0 x3).f0) ((rd_T70 x0 x3).f1) ((rd_T70 x0 x3).f2) ((rd_T70 x0 x3).f3) ((rd_T70 x0 x3).f4)).bind fun t110 => (if t110 = true then (spec_l4Legs.l0 k x0 (wrap64 (x3 + 1))) else (some false))) else (none)) else (some (decide ((x0.length : Int) ≤ 12)))
def spec_l4Legs.f (k : Nat) (l0 : List (S70)) : Option (Bool) := spec_l4Legs.l0 k l0 0
theorem spec_l4Legs.mono_l : ∀ k, (∀ y0 y1, LeO (spec_l4Legs.l0 k y0 y1) (spec_l4Legs.l0 (k + 1) y0 y1))
 | 0 => fun _ _ r h => by simp [spec_l4Legs.l0] at h
 | k + 1 => by
  have ih0 := spec_l4Legs.mono_l k
  ·intro y0 y1
   unfold spec_l4Legs.l0
   repeat' with_reducible first | apply ih0 | exact LeO.refl _ | exact LeO.none _ | refine LeO.ite ?_ ?_ | refine LeO.bind ?_ (fun _ => ?_)
theorem spec_l4Legs.mono : ∀ a0 k, LeO (spec_l4Legs.f k a0) (spec_l4Legs.f (k + 1) a0) := by
 intro a0 k
 have ih0 := spec_l4Legs.mono_l k
 unfold spec_l4Legs.f
 repeat' with_reducible first | apply ih0 | exact LeO.refl _ | exact LeO.none _ | refine LeO.ite ?_ ?_ | refine LeO.bind ?_ (fun _ => ?_)
set_option maxHeartbeats 8000000 in
set_option maxRecDepth 100000 in
theorem spec_l4Legs.calls (k : Nat) (A0 : Option Addr) (c0 : Nat) (l0 : List (S70)) (r : Bool) (w : World) (hr0 : Kd.C k70 w A0 l0.length l0) (hc0 : l0.length ≤ c0) (h : spec_l4Legs.f k l0 = some r) :
  Calls Try.prog 59 #[.slice A0 l0.length c0] w fun e w' => e = .returned (.bool r) ∧ Below w.heap.size w w' := by
 have hu70 := Try.underlying70
 have HR0 := Aside0.mk hr0
 have HC0 := Aside0.mk hc0
 clear hr0 hc0
 have HB := Aside0.mk (Below.refl w.heap.size w)
 have H : (spec_l4Legs.l0 k l0 0) = some r := h
 clear h
 have H' := Aside0.mk H
 clear H
 go_enter Try.func59, Try.ntmps59
 go_wp2
 go_loopg [3] k (fun kq v3 w' => ∃ (x3_1 : Int), v3 = .int .i64 x3_1 ∧ Aside0 (spec_l4Legs.l0 kq l0 x3_1 = some r) ∧ Aside0 (kq ≤ k) ∧ Aside0 (Below w.heap.size w w'))
 case atStart => exact ⟨(0), rB, H', ⟨Nat.le_refl _⟩, (aB HB)⟩
 case round =>
  clear H'
  obtain ⟨x3_1, rfl, HA, HK1, HB⟩ := hrel
  cases gk with
  | zero => exact absurd HA.out (by simp [spec_l4Legs.l0])
  | succ k1 =>
   have H := HA.out
   clear HA
   simp only [spec_l4Legs.l0] at H
   replace H := ifD H
   rcases H with ⟨H, -, c2b0⟩ | ⟨H, -, c2b0⟩
   ·by_cases c3 : 0 ≤ x3_1
    ·rw [if_pos c3] at H
     have c3b0 : decide (0 ≤ x3_1) = true := decide_eq_true c3
     clear c3
     replace H := bA H
     obtain ⟨t110, A4, H⟩ := H
     rcases Bool.eq_false_or_eq_true t110 with rfl | rfl
     ·replace H := iT rfl H
      have H' := Aside0.mk H
      clear H
      have p109 : 0 ≤ (x3_1 : Int) := of_decide_eq_true asmB
      have q109 : x3_1 < (l0.length : Int) := of_decide_eq_true asmB
      obtain ⟨ad109, e109, hx109_0, hx109_1, hx109_2, hx109_3, hx109_4⟩ := at_T70 HR0.out x3_1 p109 q109
      cases e109
      replace hx109_0 := bx HB.out hx109_0
      replace hx109_1 := bx HB.out hx109_1
      replace hx109_2 := bx HB.out hx109_2
      replace hx109_3 := bx HB.out hx109_3
      replace hx109_4 := bx HB.out hx109_4
      replace p109 := eq_true p109
      replace q109 := eq_true q109
      go_wp2_with (first | ((with_reducible refine gC 92 ?_); refine lA (some 14) Try.func92 (spec_l4Leg.calls ((rd_T70 l0 x3_1).f0) ((rd_T70 l0 x3_1).f1) ((rd_T70 l0 x3_1).f2) ((rd_T70 l0 x3_1).f3) ((rd_T70 l0 x3_1).f4) true _ A4.out) ?_; intro w6 hb; replace HB := uB HB hb; (try clear hb)))
      go_roundg k1
      case measure => have := HK1.out; omega
      case rel => exact ⟨(wrap64 (x3_1 + 1)), rB, H', ⟨by have := HK1.out; omega⟩, (aB HB)⟩
     ·replace H := iF (by decide) H
      obtain rfl := Option.some.inj H
      have p109 : 0 ≤ (x3_1 : Int) := of_decide_eq_true asmB
      have q109 : x3_1 < (l0.length : Int) := of_decide_eq_true asmB
      obtain ⟨ad109, e109, hx109_0, hx109_1, hx109_2, hx109_3, hx109_4⟩ := at_T70 HR0.out x3_1 p109 q109
      cases e109
      replace hx109_0 := bx HB.out hx109_0
      replace hx109_1 := bx HB.out hx109_1
      replace hx109_2 := bx HB.out hx109_2
      replace hx109_3 := bx HB.out hx109_3
      replace hx109_4 := bx HB.out hx109_4
      replace p109 := eq_true p109
      replace q109 := eq_true q109
      go_wp2_with (first | ((with_reducible refine gC 92 ?_); refine lA (some 14) Try.func92 (spec_l4Leg.calls ((rd_T70 l0 x3_1).f0) ((rd_T70 l0 x3_1).f1) ((rd_T70 l0 x3_1).f2) ((rd_T70 l0 x3_1).f3) ((rd_T70 l0 x3_1).f4) false _ A4.out) ?_; intro w7 hb; replace HB := uB HB hb; (try clear hb)))
      go_ret
      exact ⟨eB, (bW HB)⟩
    ·rw [if_neg c3] at H
     exact absurd H (by simp)
   ·obtain rfl := Option.some.inj H
    go_wp2
    go_ret
    exact ⟨eB, (bW HB)⟩

/-! ### spec_l20Shared: function 93 -/
def spec_l20Shared.f (a0_0 a0_1 a0_2 a0_3 a0_4 a1_0 a1_1 a1_2 a1_3 a1_4 : Int) : Option (Bool) := if a0_0 = a1_0 then (if a0_1 = a1_1 then (some true) else (if a0_0 = a1_1 then (some (a0_1 == a1_0)) else (some false))) else (if a0_0 = a1_1 then (some (a0_1 == a1_0)) else (some false))
set_option maxHeartbeats 8000000 in
set_option maxRecDepth 100000 in
theorem spec_l20Shared.calls (a0_0 a0_1 a0_2 a0_3 a0_4 a1_0 a1_1 a1_2 a1_3 a1_4 : Int) (r : Bool) (w : World) (h : spec_l20Shared.f a0_0 a0_1 a0_2 a0_3 a0_4 a1_0 a1_1 a1_2 a1_3 a1_4 = some r) :
  Calls Try.prog 93 #[.agg #[.int .i64 a0_0, .int .i64 a0_1, .int .i64 a0_2, .int .i64 a0_3, .int .i64 a0_4], .agg #[.int .i64 a1_0, .int .i64 a1_1, .int .i64 a1_2, .int .i64 a1_3, .int .i64 a1_4]] w fun e w' => e = .returned (.bool r) ∧ Below w.heap.size w w' := by
 have hu70 := Try.underlying70
 have HB := Aside0.mk (Below.refl w.heap.size w)
 have H := h
 clear h
 unfold spec_l20Shared.f at H
 replace H := ifI H
 rcases H with ⟨H, -, c3b0, c3b1⟩ | ⟨H, c3, c3b0, c3b1⟩
 ·replace H := ifI H
  rcases H with ⟨H, -, c4b0, c4b1⟩ | ⟨H, c4, c4b0, c4b1⟩
  ·obtain rfl := Option.some.inj H
   go_enter Try.func93, Try.ntmps93
   go_wp2_with (first | ((with_reducible refine gD 2 ?_); refine bxE 2 70 #[.int .i64 a0_0, .int .i64 a0_1, .int .i64 a0_2, .int .i64 a0_3, .int .i64 a0_4] fun gb111 w5 hg hbox hb => ?_; have BK111 := Aside0.mk hbox; have GE111 := gB HB hg; replace HB := uB HB hb; clear hb hbox hg) | ((with_reducible refine gD 3 ?_); refine bxE 3 70 #[.int .i64 a1_0, .int .i64 a1_1, .int .i64 a1_2, .int .i64 a1_3, .int .i64 a1_4] fun gb112 w6 hg hbox hb => ?_; have BK112 := Aside0.mk hbox; have GE112 := gB HB hg; have ⟨NB111_112, NB112_111⟩ := nB BK111 hg; replace BK111 := uK BK111 hb; replace HB := uB HB hb; clear hb hbox hg; have hnb7 := NB111_112.out; have hnc7 := NB112_111.out; have ⟨hcz8_0, hcz8_1, hcz8_2, hcz8_3, hcz8_4, hfz8_0⟩ := cz5 BK111; have ⟨hcz9_0, hcz9_1, hcz9_2, hcz9_3, hcz9_4, hfz9_0⟩ := cz5 BK112))
   go_ret
   exact ⟨eB, (bW HB)⟩
  ·replace H := ifI H
   rcases H with ⟨H, -, c10b0, c10b1⟩ | ⟨H, c10, c10b0, c10b1⟩
   ·obtain rfl := Option.some.inj H
    go_enter Try.func93, Try.ntmps93
    go_wp2_with (first | ((with_reducible refine gD 2 ?_); refine bxE 2 70 #[.int .i64 a0_0, .int .i64 a0_1, .int .i64 a0_2, .int .i64 a0_3, .int .i64 a0_4] fun gb111 w11 hg hbox hb => ?_; have BK111 := Aside0.mk hbox; have GE111 := gB HB hg; replace HB := uB HB hb; clear hb hbox hg) | ((with_reducible refine gD 3 ?_); refine bxE 3 70 #[.int .i64 a1_0, .int .i64 a1_1, .int .i64 a1_2, .int .i64 a1_3, .int .i64 a1_4] fun gb112 w12 hg hbox hb => ?_; have BK112 := Aside0.mk hbox; have GE112 := gB HB hg; have ⟨NB111_112, NB112_111⟩ := nB BK111 hg; replace BK111 := uK BK111 hb; replace HB := uB HB hb; clear hb hbox hg; have hnb13 := NB111_112.out; have hnc13 := NB112_111.out; have ⟨hcz14_0, hcz14_1, hcz14_2, hcz14_3, hcz14_4, hfz14_0⟩ := cz5 BK111; have ⟨hcz15_0, hcz15_1, hcz15_2, hcz15_3, hcz15_4, hfz15_0⟩ := cz5 BK112))
    go_ret
    exact ⟨eB, (bW HB)⟩
   ·obtain rfl := Option.some.inj H
    go_enter Try.func93, Try.ntmps93
    go_wp2_with (first | ((with_reducible refine gD 2 ?_); refine bxE 2 70 #[.int .i64 a0_0, .int .i64 a0_1, .int .i64 a0_2, .int .i64 a0_3, .int .i64 a0_4] fun gb111 w16 hg hbox hb => ?_; have BK111 := Aside0.mk hbox; have GE111 := gB HB hg; replace HB := uB HB hb; clear hb hbox hg) | ((with_reducible refine gD 3 ?_); refine bxE 3 70 #[.int .i64 a1_0, .int .i64 a1_1, .int .i64 a1_2, .int .i64 a1_3, .int .i64 a1_4] fun gb112 w17 hg hbox hb => ?_; have BK112 := Aside0.mk hbox; have GE112 := gB HB hg; have ⟨NB111_112, NB112_111⟩ := nB BK111 hg; replace BK111 := uK BK111 hb; replace HB := uB HB hb; clear hb hbox hg; have hnb18 := NB111_112.out; have hnc18 := NB112_111.out; have ⟨hcz19_0, hcz19_1, hcz19_2, hcz19_3, hcz19_4, hfz19_0⟩ := cz5 BK111; have ⟨hcz20_0, hcz20_1, hcz20_2, hcz20_3, hcz20_4, hfz20_0⟩ := cz5 BK112))
    go_ret
    exact ⟨eB, (bW HB)⟩
 ·replace H := ifI H
  rcases H with ⟨H, -, c21b0, c21b1⟩ | ⟨H, c21, c21b0, c21b1⟩
  ·obtain rfl := Option.some.inj H
   go_enter Try.func93, Try.ntmps93
   go_wp2_with (first | ((with_reducible refine gD 2 ?_); refine bxE 2 70 #[.int .i64 a0_0, .int .i64 a0_1, .int .i64 a0_2, .int .i64 a0_3, .int .i64 a0_4] fun gb111 w22 hg hbox hb => ?_; have BK111 := Aside0.mk hbox; have GE111 := gB HB hg; replace HB := uB HB hb; clear hb hbox hg) | ((with_reducible refine gD 3 ?_); refine bxE 3 70 #[.int .i64 a1_0, .int .i64 a1_1, .int .i64 a1_2, .int .i64 a1_3, .int .i64 a1_4] fun gb112 w23 hg hbox hb => ?_; have BK112 := Aside0.mk hbox; have GE112 := gB HB hg; have ⟨NB111_112, NB112_111⟩ := nB BK111 hg; replace BK111 := uK BK111 hb; replace HB := uB HB hb; clear hb hbox hg; have hnb24 := NB111_112.out; have hnc24 := NB112_111.out; have ⟨hcz25_0, hcz25_1, hcz25_2, hcz25_3, hcz25_4, hfz25_0⟩ := cz5 BK111; have ⟨hcz26_0, hcz26_1, hcz26_2, hcz26_3, hcz26_4, hfz26_0⟩ := cz5 BK112))
   go_ret
   exact ⟨eB, (bW HB)⟩
  ·obtain rfl := Option.some.inj H
   go_enter Try.func93, Try.ntmps93
   go_wp2_with (first | ((with_reducible refine gD 2 ?_); refine bxE 2 70 #[.int .i64 a0_0, .int .i64 a0_1, .int .i64 a0_2, .int .i64 a0_3, .int .i64 a0_4] fun gb111 w27 hg hbox hb => ?_; have BK111 := Aside0.mk hbox; have GE111 := gB HB hg; replace HB := uB HB hb; clear hb hbox hg) | ((with_reducible refine gD 3 ?_); refine bxE 3 70 #[.int .i64 a1_0, .int .i64 a1_1, .int .i64 a1_2, .int .i64 a1_3, .int .i64 a1_4] fun gb112 w28 hg hbox hb => ?_; have BK112 := Aside0.mk hbox; have GE112 := gB HB hg; have ⟨NB111_112, NB112_111⟩ := nB BK111 hg; replace BK111 := uK BK111 hb; replace HB := uB HB hb; clear hb hbox hg; have hnb29 := NB111_112.out; have hnc29 := NB112_111.out; have ⟨hcz30_0, hcz30_1, hcz30_2, hcz30_3, hcz30_4, hfz30_0⟩ := cz5 BK111; have ⟨hcz31_0, hcz31_1, hcz31_2, hcz31_3, hcz31_4, hfz31_0⟩ := cz5 BK112))
   go_ret
   exact ⟨eB, (bW HB)⟩

/-! ### spec_l20Pairs: function 60 -/
mutual
def spec_l20Pairs.l0 : Nat → List (S70) → List (S70) → List (S64) → Int → Option ((List (S64)))
 | 0, _, _, _, _ => none
 | k + 1, x0, x1, x5, x6 => if x6 < (x0.length : Int) then (spec_l20Pairs.l1 k x0 x1 x5 x6 0) else (some x5)
def spec_l20Pairs.l1 : Nat → List (S70) → List (S70) → List (S64) → Int → Int → Option ((List (S64)))
 | 0, _, _, _, _, _ => none
 | k + 1, x0, x1, x5, x6, x7 => if x7 < (x1.length : Int) then (if 0 ≤ x6 then (if x6 < (x0.length : Int) then (if 0 ≤ x7 then ((spec_l20Shared.f ((rd_T70 x0 x6).f0) ((rd_T70 x0 x6).f1) ((rd_T70 x0 x6).f2) ((rd_T70 x0 x6).f3) ((rd_T70 x0 x6).f4) ((rd_T70 x1 x7).f0) ((rd_T70 x1 x7).f1) ((rd_T70 x1 x7).f2) ((rd_T70 x1 x7).f3) ((rd_T70 x1 x7).f4)).bind fun t118 => (if t118 = true then (if x5.length < 8796093022208 then (spec_l20Pairs.l1 k x0 x1 (x5 ++ [(⟨x6, x7⟩ : S64)]) x6 (wrap64 (x7 + 1))) else (none)) else (spec_l20Pairs.l1 k x0 x1 x5 x6 (wrap64 (x7 + 1))))) else (none)) else (none)) else (none)) else (spec_l20Pairs.l0 k x0 x1 x5 (wrap64 (x6 + 1)))
end
def spec_l20Pairs.f (k : Nat) (l0 : List (S70)) (l1 : List (S70)) : Option ((List (S64))) := spec_l20Pairs.l0 k l0 l1 (([] : List (S64))) 0
theorem spec_l20Pairs.mono_l : ∀ k, (∀ y0 y1 y2 y3, LeO (spec_l20Pairs.l0 k y0 y1 y2 y3) (spec_l20Pairs.l0 (k + 1) y0 y1 y2 y3)) ∧ (∀ y0 y1 y2 y3 y4, LeO (spec_l20Pairs.l1 k y0 y1 y2 y3 y4) (spec_l20Pairs.l1 (k + 1) y0 y1 y2 y3 y4))
 | 0 => ⟨fun _ _ _ _ r h => by simp [spec_l20Pairs.l0] at h, fun _ _ _ _ _ r h => by simp [spec_l20Pairs.l1] at h⟩
 | k + 1 => by
  obtain ⟨ih0, ih1⟩ := spec_l20Pairs.mono_l k
  refine ⟨?_, ?_⟩
  ·intro y0 y1 y2 y3
   unfold spec_l20Pairs.l0
   repeat' with_reducible first | apply ih0 | apply ih1 | exact LeO.refl _ | exact LeO.none _ | refine LeO.ite ?_ ?_ | refine LeO.bind ?_ (fun _ => ?_)
  ·intro y0 y1 y2 y3 y4
   unfold spec_l20Pairs.l1
   repeat' with_reducible first | apply ih0 | apply ih1 | exact LeO.refl _ | exact LeO.none _ | refine LeO.ite ?_ ?_ | refine LeO.bind ?_ (fun _ => ?_)
theorem spec_l20Pairs.mono : ∀ a0 a1 k, LeO (spec_l20Pairs.f k a0 a1) (spec_l20Pairs.f (k + 1) a0 a1) := by
 intro a0 a1 k
 obtain ⟨ih0, ih1⟩ := spec_l20Pairs.mono_l k
 unfold spec_l20Pairs.f
 repeat' with_reducible first | apply ih0 | apply ih1 | exact LeO.refl _ | exact LeO.none _ | refine LeO.ite ?_ ?_ | refine LeO.bind ?_ (fun _ => ?_)
def spec_l20Pairs.T8 : Bool × List (List Nat × List Nat) := (true, [([], []), ([], []), ([0, 1], [0, 1]), ([2], [2]), ([], []), ([], []), ([4, 5], [4, 5]), ([6], [6]), ([3, 7], [3, 7])])
def spec_l20Pairs.B8 : List Nat := [0, 0, 3, 7, 0, 0, 48, 112, 255]
theorem spec_l20Pairs.tab8 : rtab .any (opsOf Try.f60 8) = spec_l20Pairs.T8 := by kernel_rfl
theorem spec_l20Pairs.bits8 : waitsOk spec_l20Pairs.T8.2 spec_l20Pairs.B8 = true := by kernel_rfl
set_option maxHeartbeats 8000000 in
set_option maxRecDepth 100000 in
theorem spec_l20Pairs.calls (k : Nat) (A0 : Option Addr) (c0 : Nat) (l0 : List (S70)) (A1 : Option Addr) (c1 : Nat) (l1 : List (S70)) (r : List (S64)) (w : World) (hr0 : Kd.C k70 w A0 l0.length l0) (hc0 : l0.length ≤ c0) (hr1 : Kd.C k70 w A1 l1.length l1) (hc1 : l1.length ≤ c1) (h : spec_l20Pairs.f k l0 l1 = some r) :
  Calls Try.prog 60 #[.slice A0 l0.length c0, .slice A1 l1.length c1] w fun e w' => ∃ v0_ : Value, e = .returned (v0_) ∧ Kd.R k64 64 w' w.heap.size (fun _ => True) v0_ r ∧ Below w.heap.size w w' := by
 have hu70 := Try.underlying70
 have hu64 := Try.underlying64
 have HR0 := Aside0.mk hr0
 have HC0 := Aside0.mk hc0
 clear hr0 hc0
 have HR1 := Aside0.mk hr1
 have HC1 := Aside0.mk hc1
 clear hr1 hc1
 have HB := Aside0.mk (Below.refl w.heap.size w)
 have H : (spec_l20Pairs.l0 k l0 l1 (([] : List (S64))) 0) = some r := h
 clear h
 obtain ⟨y113, hy113⟩ : ∃ y_ : List (S64), y_ = (([] : List (S64))) := ⟨_, rfl⟩
 replace H : (spec_l20Pairs.l0 k l0 l1 y113 0) = some r := by first | (rw [hy113]; with_reducible exact H) | (have H2_ := (Option.bind_some _ _).symm.trans H; rw [hy113]; with_reducible exact H2_) | (have H2_ := (Option.bind_some _ _).symm.trans H; with_reducible exact H2_) | with_reducible exact H | (rw [hy113]; exact H) | exact H
 have Ny113 := Aside0.mk hy113
 clear hy113
 have H' := Aside0.mk H
 clear H
 go_enter Try.func60, Try.ntmps60
 go_wp2_with (first | ((with_reducible refine gate_dst (N := 8) rfl ?_); refine Kd.R_lit k64 _ 64 ?hg (N := 8) ?hd (xs := ([] : List (S64))) (inner := []) (ok := fun _ => True) (okp := fun _ => True) ?hr ?hp (fun _ hk => hk) trivial (Below.refl _ _) (Nat.le_refl _) (by simp) ?_; (case hd => rfl); (case hg => rfl); (case hr => first | (go_simp; done) | (go_simp; rfl)); (case hp => exact (Reps.none _ _)); intro v114 w3 ho4 hb hg_ hnew_; clear hg_ hnew_; (first | rw [← Ny113.out] at ho4 | (simp only [Int.reduceToNat] at ho4; rw [← Ny113.out] at ho4)); have HO115 := Aside0.mk (Kd.R_lower ho4 (below_size (bW HB))); replace HB := uB HB hb; clear hb ho4))
 (try simp only [Act.put, List.setIfInBounds_toArray, List.set_cons_zero, List.set_cons_succ])
 go_loopg [5, 6] k (fun kq v5 v6 w' => ∃ (x5_1 : List (S64)) (x6_1 : Int), v6 = .int .i64 x6_1 ∧ Aside0 (spec_l20Pairs.l0 kq l0 l1 x5_1 x6_1 = some r) ∧ Aside0 (kq ≤ k) ∧ Aside0 (Kd.R k64 64 w' w.heap.size (fun _ => True) v5 x5_1) ∧ Aside0 (Below w.heap.size w w'))
 case atStart => exact ⟨(y113), (0), rB, H', ⟨Nat.le_refl _⟩, ⟨upR HO115.out⟩, (aB HB)⟩
 case round =>
  clear H'
  try clear c1
  obtain ⟨x5_1, x6_1, rfl, HA, HK1, HO_5, HB⟩ := hrel
  cases gk with
  | zero => exact absurd HA.out (by simp [spec_l20Pairs.l0])
  | succ k1 =>
   have H := HA.out
   clear HA
   simp only [spec_l20Pairs.l0] at H
   replace H := ifD H
   rcases H with ⟨H, -, c5b0⟩ | ⟨H, -, c5b0⟩
   ·have H' := Aside0.mk H
    clear H
    go_wp2
    go_loopg [5, 7] k1 (fun kq v5 v7 w' => ∃ (x5_2 : List (S64)) (x7_2 : Int), v7 = .int .i64 x7_2 ∧ Aside0 (spec_l20Pairs.l1 kq l0 l1 x5_2 x6_1 x7_2 = some r) ∧ Aside0 (kq ≤ k1) ∧ Aside0 (Kd.R k64 64 w' w.heap.size (fun _ => True) v5 x5_2) ∧ Aside0 (Below w.heap.size w w'))
    case atStart => exact ⟨(x5_1), (0), rB, H', ⟨Nat.le_refl _⟩, ⟨upR HO_5.out⟩, (aB HB)⟩
    case round =>
     clear H'
     try clear c1
     try clear c5b0
     obtain ⟨x5_2, x7_2, rfl, HA, HK2, HO_5, HB⟩ := hrel
     cases gk with
     | zero => exact absurd HA.out (by simp [spec_l20Pairs.l1])
     | succ k2 =>
      have H := HA.out
      clear HA
      simp only [spec_l20Pairs.l1] at H
      replace H := ifD H
      rcases H with ⟨H, -, c6b0⟩ | ⟨H, -, c6b0⟩
      ·by_cases c7 : 0 ≤ x6_1
       ·rw [if_pos c7] at H
        have c7b0 : decide (0 ≤ x6_1) = true := decide_eq_true c7
        clear c7
        by_cases c8 : x6_1 < (l0.length : Int)
        ·rw [if_pos c8] at H
         have c8b0 : decide (x6_1 < (l0.length : Int)) = true := decide_eq_true c8
         clear c8
         by_cases c9 : 0 ≤ x7_2
         ·rw [if_pos c9] at H
          have c9b0 : decide (0 ≤ x7_2) = true := decide_eq_true c9
          clear c9
          replace H := bA H
          obtain ⟨t118, A10, H⟩ := H
          rcases Bool.eq_false_or_eq_true t118 with rfl | rfl
          ·replace H := iT rfl H
           by_cases c12 : x5_2.length < 8796093022208
           ·rw [if_pos c12] at H
            have LMc12 := Aside0.mk c12
            clear c12
            obtain ⟨y119, hy119⟩ : ∃ y_ : List (S64), y_ = (x5_2 ++ [(⟨x6_1, x7_2⟩ : S64)]) := ⟨_, rfl⟩
            replace H : (spec_l20Pairs.l1 k2 l0 l1 y119 x6_1 (wrap64 (x7_2 + 1))) = some r := by first | (rw [hy119]; with_reducible exact H) | (have H2_ := (Option.bind_some _ _).symm.trans H; rw [hy119]; with_reducible exact H2_) | (have H2_ := (Option.bind_some _ _).symm.trans H; with_reducible exact H2_) | with_reducible exact H | (rw [hy119]; exact H) | exact H
            have Ny119 := Aside0.mk hy119
            clear hy119
            have H' := Aside0.mk H
            clear H
            try go_wp2
            replace HO_5 := Aside0.mk (Kd.R_drew HO_5.out)
            replace HB := Aside0.mk (below_drew1 HB.out)
            have p116 : 0 ≤ (x6_1 : Int) := of_decide_eq_true asmB
            have q116 : x6_1 < (l0.length : Int) := of_decide_eq_true asmB
            obtain ⟨ad116, e116, hx116_0, hx116_1, hx116_2, hx116_3, hx116_4⟩ := at_T70 HR0.out x6_1 p116 q116
            have hw116_4 := hx116_4
            have hw116_3 := hx116_3
            have hw116_2 := hx116_2
            have hw116_1 := hx116_1
            have hw116_0 := hx116_0
            cases e116
            replace hx116_0 := bx HB.out hx116_0
            replace hx116_1 := bx HB.out hx116_1
            replace hx116_2 := bx HB.out hx116_2
            replace hx116_3 := bx HB.out hx116_3
            replace hx116_4 := bx HB.out hx116_4
            replace p116 := eq_true p116
            replace q116 := eq_true q116
            have p117 : 0 ≤ (x7_2 : Int) := of_decide_eq_true asmB
            have q117 : x7_2 < (l1.length : Int) := of_decide_eq_true asmB
            obtain ⟨ad117, e117, hx117_0, hx117_1, hx117_2, hx117_3, hx117_4⟩ := at_T70 HR1.out x7_2 p117 q117
            have hw117_4 := hx117_4
            have hw117_3 := hx117_3
            have hw117_2 := hx117_2
            have hw117_1 := hx117_1
            have hw117_0 := hx117_0
            cases e117
            replace hx117_0 := bx HB.out hx117_0
            replace hx117_1 := bx HB.out hx117_1
            replace hx117_2 := bx HB.out hx117_2
            replace hx117_3 := bx HB.out hx117_3
            replace hx117_4 := bx HB.out hx117_4
            replace p117 := eq_true p117
            replace q117 := eq_true q117
            refine sA (n := 9) (S := fun w' => w'.cell? (ad116.add ((x6_1).toNat * 5)) = some (.int .i64 ((rd_T70 l0 x6_1).f0)) ∧ w'.cell? ⟨(ad116.add ((x6_1).toNat * 5)).block, (ad116.add ((x6_1).toNat * 5)).off + 1, none⟩ = some (.int .i64 ((rd_T70 l0 x6_1).f1)) ∧ w'.cell? ⟨(ad116.add ((x6_1).toNat * 5)).block, (ad116.add ((x6_1).toNat * 5)).off + 2, none⟩ = some (.int .i64 ((rd_T70 l0 x6_1).f2)) ∧ w'.cell? ⟨(ad116.add ((x6_1).toNat * 5)).block, (ad116.add ((x6_1).toNat * 5)).off + 3, none⟩ = some (.int .i64 ((rd_T70 l0 x6_1).f3)) ∧ w'.cell? ⟨(ad116.add ((x6_1).toNat * 5)).block, (ad116.add ((x6_1).toNat * 5)).off + 4, none⟩ = some (.int .i64 ((rd_T70 l0 x6_1).f4)) ∧ w'.cell? (ad117.add ((x7_2).toNat * 5)) = some (.int .i64 ((rd_T70 l1 x7_2).f0)) ∧ w'.cell? ⟨(ad117.add ((x7_2).toNat * 5)).block, (ad117.add ((x7_2).toNat * 5)).off + 1, none⟩ = some (.int .i64 ((rd_T70 l1 x7_2).f1)) ∧ w'.cell? ⟨(ad117.add ((x7_2).toNat * 5)).block, (ad117.add ((x7_2).toNat * 5)).off + 2, none⟩ = some (.int .i64 ((rd_T70 l1 x7_2).f2)) ∧ w'.cell? ⟨(ad117.add ((x7_2).toNat * 5)).block, (ad117.add ((x7_2).toNat * 5)).off + 3, none⟩ = some (.int .i64 ((rd_T70 l1 x7_2).f3)) ∧ w'.cell? ⟨(ad117.add ((x7_2).toNat * 5)).block, (ad117.add ((x7_2).toNat * 5)).off + 4, none⟩ = some (.int .i64 ((rd_T70 l1 x7_2).f4))) (ds := []) spec_l20Pairs.tab8 spec_l20Pairs.bits8 #[false, false, false, false, false, false, false, false, false] ⟨(bX HB hw116_0), (bX HB hw116_1), (bX HB hw116_2), (bX HB hw116_3), (bX HB hw116_4), (bX HB hw117_0), (bX HB hw117_1), (bX HB hw117_2), (bX HB hw117_3), (bX HB hw117_4)⟩ fun hHeld HT_ HW_ => ?_
            generalize wr.drew = w13 at HO_5 HB hx116_0 hx116_1 hx116_2 hx116_3 hx116_4 hx117_0 hx117_1 hx117_2 hx117_3 hx117_4 hHeld ⊢
            refine pA 0 21 HT_ ?_
            refine pA 1 22 HT_ ?_
            refine pA 2 23 HT_ ?_
            refine pA 4 25 HT_ ?_
            refine pA 5 26 HT_ ?_
            refine pA 6 27 HT_ ?_
            refine tA 3 24 HT_ HW_ hHeld ?_
            refine tA 7 28 HT_ HW_ hHeld ?_
            refine oA 8 (some 29) HT_ fun K hK => ?_
            refine rA Try.func93 (spec_l20Shared.calls ((rd_T70 l0 x6_1).f0) ((rd_T70 l0 x6_1).f1) ((rd_T70 l0 x6_1).f2) ((rd_T70 l0 x6_1).f3) ((rd_T70 l0 x6_1).f4) ((rd_T70 l1 x7_2).f0) ((rd_T70 l1 x7_2).f1) ((rd_T70 l1 x7_2).f2) ((rd_T70 l1 x7_2).f3) ((rd_T70 l1 x7_2).f4) true _ A10.out) ?_
            intro w14 hb
            replace HO_5 := uR HO_5 hb
            replace HB := uB HB hb
            (try clear hb)
            (try clear hk)
            refine hK.out _ _ ⟨(bX HB hw116_0), (bX HB hw116_1), (bX HB hw116_2), (bX HB hw116_3), (bX HB hw116_4), (bX HB hw117_0), (bX HB hw117_1), (bX HB hw117_2), (bX HB hw117_3), (bX HB hw117_4)⟩ (fun hHeld => ?_)
            clear hK K
            refine nA ?_ (some 29)
            refine done_ (done_of HT_.out (by kernel_rfl)) ?_
            try go_wp2_with (first | ((with_reducible refine gate_builtin (b := .append) (xs := #[.tmp 30, .tmp 34]) rfl ?_); at_builtin; refine Kd.R_append k64 (w0 := w) w.heap.size rfl (.tmp 30) (.tmp 34) 32 64 (.agg #[(.int .i64 0), (.int .i64 0)]) 16 rfl Try.underlying32 info64 rfl (by decide) (by omega) u5 x5_2 (⟨x6_1, x7_2⟩ : S64) [.int .i64 x6_1, .int .i64 x7_2] (fun _ => True) (fun _ => False) rfl rfl ?aP (fun _ hk => hk.elim) ?aF ?aO ?aB ?aS ?aL ?_; (case aP => exact k64_mkM _ _ _ (⟨x6_1, x7_2⟩ : S64)); (case aB => exact (bW HB)); (case aF => exact (fun _ _ => trivial)); (case aO => exact (upR HO_5.out)); (case aS => exact (below_size (bW HB))); (case aL => have := LMc12.out; omega); intro v120 w15 ho hb hg hat; rw [← Ny119.out] at ho; have HO121 := Aside0.mk (ho); replace HB := Aside0.mk (hb); clear HO_5; clear ho hb hg hat))
            go_roundg k2
            case measure => have := HK1.out; have := HK2.out; omega
            case rel => exact ⟨(y119), (wrap64 (x7_2 + 1)), rB, H', ⟨by have := HK1.out; have := HK2.out; omega⟩, ⟨upR HO121.out⟩, (aB HB)⟩
           ·rw [if_neg c12] at H
            exact absurd H (by simp)
          ·replace H := iF (by decide) H
           have H' := Aside0.mk H
           clear H
           try go_wp2
           replace HO_5 := Aside0.mk (Kd.R_drew HO_5.out)
           replace HB := Aside0.mk (below_drew1 HB.out)
           have p116 : 0 ≤ (x6_1 : Int) := of_decide_eq_true asmB
           have q116 : x6_1 < (l0.length : Int) := of_decide_eq_true asmB
           obtain ⟨ad116, e116, hx116_0, hx116_1, hx116_2, hx116_3, hx116_4⟩ := at_T70 HR0.out x6_1 p116 q116
           have hw116_4 := hx116_4
           have hw116_3 := hx116_3
           have hw116_2 := hx116_2
           have hw116_1 := hx116_1
           have hw116_0 := hx116_0
           cases e116
           replace hx116_0 := bx HB.out hx116_0
           replace hx116_1 := bx HB.out hx116_1
           replace hx116_2 := bx HB.out hx116_2
           replace hx116_3 := bx HB.out hx116_3
           replace hx116_4 := bx HB.out hx116_4
           replace p116 := eq_true p116
           replace q116 := eq_true q116
           have p117 : 0 ≤ (x7_2 : Int) := of_decide_eq_true asmB
           have q117 : x7_2 < (l1.length : Int) := of_decide_eq_true asmB
           obtain ⟨ad117, e117, hx117_0, hx117_1, hx117_2, hx117_3, hx117_4⟩ := at_T70 HR1.out x7_2 p117 q117
           have hw117_4 := hx117_4
           have hw117_3 := hx117_3
           have hw117_2 := hx117_2
           have hw117_1 := hx117_1
           have hw117_0 := hx117_0
           cases e117
           replace hx117_0 := bx HB.out hx117_0
           replace hx117_1 := bx HB.out hx117_1
           replace hx117_2 := bx HB.out hx117_2
           replace hx117_3 := bx HB.out hx117_3
           replace hx117_4 := bx HB.out hx117_4
           replace p117 := eq_true p117
           replace q117 := eq_true q117
           refine sA (n := 9) (S := fun w' => w'.cell? (ad116.add ((x6_1).toNat * 5)) = some (.int .i64 ((rd_T70 l0 x6_1).f0)) ∧ w'.cell? ⟨(ad116.add ((x6_1).toNat * 5)).block, (ad116.add ((x6_1).toNat * 5)).off + 1, none⟩ = some (.int .i64 ((rd_T70 l0 x6_1).f1)) ∧ w'.cell? ⟨(ad116.add ((x6_1).toNat * 5)).block, (ad116.add ((x6_1).toNat * 5)).off + 2, none⟩ = some (.int .i64 ((rd_T70 l0 x6_1).f2)) ∧ w'.cell? ⟨(ad116.add ((x6_1).toNat * 5)).block, (ad116.add ((x6_1).toNat * 5)).off + 3, none⟩ = some (.int .i64 ((rd_T70 l0 x6_1).f3)) ∧ w'.cell? ⟨(ad116.add ((x6_1).toNat * 5)).block, (ad116.add ((x6_1).toNat * 5)).off + 4, none⟩ = some (.int .i64 ((rd_T70 l0 x6_1).f4)) ∧ w'.cell? (ad117.add ((x7_2).toNat * 5)) = some (.int .i64 ((rd_T70 l1 x7_2).f0)) ∧ w'.cell? ⟨(ad117.add ((x7_2).toNat * 5)).block, (ad117.add ((x7_2).toNat * 5)).off + 1, none⟩ = some (.int .i64 ((rd_T70 l1 x7_2).f1)) ∧ w'.cell? ⟨(ad117.add ((x7_2).toNat * 5)).block, (ad117.add ((x7_2).toNat * 5)).off + 2, none⟩ = some (.int .i64 ((rd_T70 l1 x7_2).f2)) ∧ w'.cell? ⟨(ad117.add ((x7_2).toNat * 5)).block, (ad117.add ((x7_2).toNat * 5)).off + 3, none⟩ = some (.int .i64 ((rd_T70 l1 x7_2).f3)) ∧ w'.cell? ⟨(ad117.add ((x7_2).toNat * 5)).block, (ad117.add ((x7_2).toNat * 5)).off + 4, none⟩ = some (.int .i64 ((rd_T70 l1 x7_2).f4))) (ds := []) spec_l20Pairs.tab8 spec_l20Pairs.bits8 #[false, false, false, false, false, false, false, false, false] ⟨(bX HB hw116_0), (bX HB hw116_1), (bX HB hw116_2), (bX HB hw116_3), (bX HB hw116_4), (bX HB hw117_0), (bX HB hw117_1), (bX HB hw117_2), (bX HB hw117_3), (bX HB hw117_4)⟩ fun hHeld HT_ HW_ => ?_
           generalize wr.drew = w16 at HO_5 HB hx116_0 hx116_1 hx116_2 hx116_3 hx116_4 hx117_0 hx117_1 hx117_2 hx117_3 hx117_4 hHeld ⊢
           refine pA 0 21 HT_ ?_
           refine pA 1 22 HT_ ?_
           refine pA 2 23 HT_ ?_
           refine pA 4 25 HT_ ?_
           refine pA 5 26 HT_ ?_
           refine pA 6 27 HT_ ?_
           refine tA 3 24 HT_ HW_ hHeld ?_
           refine tA 7 28 HT_ HW_ hHeld ?_
           refine oA 8 (some 29) HT_ fun K hK => ?_
           refine rA Try.func93 (spec_l20Shared.calls ((rd_T70 l0 x6_1).f0) ((rd_T70 l0 x6_1).f1) ((rd_T70 l0 x6_1).f2) ((rd_T70 l0 x6_1).f3) ((rd_T70 l0 x6_1).f4) ((rd_T70 l1 x7_2).f0) ((rd_T70 l1 x7_2).f1) ((rd_T70 l1 x7_2).f2) ((rd_T70 l1 x7_2).f3) ((rd_T70 l1 x7_2).f4) false _ A10.out) ?_
           intro w17 hb
           replace HO_5 := uR HO_5 hb
           replace HB := uB HB hb
           (try clear hb)
           (try clear hk)
           refine hK.out _ _ ⟨(bX HB hw116_0), (bX HB hw116_1), (bX HB hw116_2), (bX HB hw116_3), (bX HB hw116_4), (bX HB hw117_0), (bX HB hw117_1), (bX HB hw117_2), (bX HB hw117_3), (bX HB hw117_4)⟩ (fun hHeld => ?_)
           clear hK K
           refine nA ?_ (some 29)
           refine done_ (done_of HT_.out (by kernel_rfl)) ?_
           try go_wp2
           go_roundg k2
           case measure => have := HK1.out; have := HK2.out; omega
           case rel => exact ⟨(x5_2), (wrap64 (x7_2 + 1)), rB, H', ⟨by have := HK1.out; have := HK2.out; omega⟩, ⟨upR HO_5.out⟩, (aB HB)⟩
         ·rw [if_neg c9] at H
          exact absurd H (by simp)
        ·rw [if_neg c8] at H
         exact absurd H (by simp)
       ·rw [if_neg c7] at H
        exact absurd H (by simp)
      ·have H' := Aside0.mk H
       clear H
       go_wp2
       go_roundg k2
       case measure => have := HK1.out; have := HK2.out; omega
       case rel => exact ⟨(x5_2), (wrap64 (x6_1 + 1)), rB, H', ⟨by have := HK1.out; have := HK2.out; omega⟩, ⟨upR HO_5.out⟩, (aB HB)⟩
   ·obtain rfl := Option.some.inj H
    go_wp2
    go_ret
    exact ⟨_, eB, upR HO_5.out, (bW HB)⟩

end Go.Proofs.Ytfaojmabalplfaa.QFnClubs
