/- Contracts of Go functions that FnSteps reaches: the call computes what the plain function says. No condition. -/
import Derived.Test.YtmfidodcpbochaaGreatQFnStepsx0
import Derived.Test.YtmfidodcpbochaaGreatQFnStepsx1
import Derived.Test.YtmfidodcpbochaaGreatQFnStepsx7
namespace Go.Proofs.YtmfidodcpbochaaGreat.QFnSteps
open Go.RowKit Go.Proofs.YtmfidodcpbochaaGreatW.PrintWords Go.Proofs.YtmfidodcpbochaaGreatW.PrintLast Go.Proofs.YtmfidodcpbochaaGreatW.PrintMore
attribute [local go_sem] max2_int min2_int max_two min_two max_three min_three max_four min_four   -- for this text's walks alone
set_option linter.unusedVariables false
set_option linter.unusedSimpArgs false

/-! ### spec_l4Leg: function 55 -/
def spec_l4Leg.f (a0_0 a0_1 a0_2 a0_3 a0_4 : Int) : Option (Bool) := (spec_l4Station.f a0_0).bind fun t461 => (if t461 = true then ((spec_l4Station.f a0_1).bind fun t462 => (if t462 = true then (if a0_0 = a0_1 then (some false) else ((spec_l1In.f a0_2 1 500).bind fun t463 => (if t463 = true then ((spec_l2Bearing.f a0_3).bind fun t464 => (if t464 = true then ((spec_l1In.f a0_4 (-90) 90).bind fun t465 => (some t465)) else (some false))) else (some false)))) else (some false))) else (some false))
set_option maxHeartbeats 8000000 in
set_option maxRecDepth 100000 in
theorem spec_l4Leg.calls (a0_0 a0_1 a0_2 a0_3 a0_4 : Int) (r : Bool) (w : World) (h : spec_l4Leg.f a0_0 a0_1 a0_2 a0_3 a0_4 = some r) :
 Calls Tryz.prog 55 #[.agg #[.int .i64 a0_0, .int .i64 a0_1, .int .i64 a0_2, .int .i64 a0_3, .int .i64 a0_4]] w fun e w' => e = .returned (.bool r) ∧ Below w.heap.size w w' := by
 have hu32 := Tryz.underlying32
 have HB := Aside0.mk (Below.refl w.heap.size w)
 have H := h
 clear h
 unfold spec_l4Leg.f at H
 replace H := bA H
 obtain ⟨t461, A2, H⟩ := H
 rcases Bool.eq_false_or_eq_true t461 with rfl | rfl
 ·replace H := iT rfl H
  replace H := bA H
  obtain ⟨t462, A4, H⟩ := H
  rcases Bool.eq_false_or_eq_true t462 with rfl | rfl
  ·replace H := iT rfl H
   replace H := ifI H
   rcases H with ⟨H, -, c6b0, c6b1⟩ | ⟨H, c6, c6b0, c6b1⟩
   ·obtain rfl := Option.some.inj H
    go_enter Tryz.func55, Tryz.ntmps55
    go_wp2_with (first | ((with_reducible refine gD 1 ?_); refine bxE 1 32 #[.int .i64 a0_0, .int .i64 a0_1, .int .i64 a0_2, .int .i64 a0_3, .int .i64 a0_4] fun gb460 w7 hg hbox hb => ?_; have BK460 := Aside0.mk hbox; have GE460 := gB HB hg; replace HB := uB HB hb; clear hb hbox hg; have ⟨hcz8_0, hcz8_1, hcz8_2, hcz8_3, hcz8_4, hfz8_0⟩ := cz5 BK460) | ((with_reducible refine gC 81 ?_); refine lA (some 5) Tryz.func81 (spec_l4Station.calls a0_0 true _ A2.out) ?_; rintro _ ⟨nd, rfl⟩) | (go_at_call 81; (with_reducible refine (spec_l4Station.calls a0_1 true _ A4.out).mono ?_); rintro e w' ⟨rfl, ⟨nd, rfl⟩⟩))
    go_ret
    exact ⟨eB, (bW HB)⟩
   ·replace H := bA H
    obtain ⟨t463, A9, H⟩ := H
    rcases Bool.eq_false_or_eq_true t463 with rfl | rfl
    ·replace H := iT rfl H
     replace H := bA H
     obtain ⟨t464, A11, H⟩ := H
     rcases Bool.eq_false_or_eq_true t464 with rfl | rfl
     ·replace H := iT rfl H
      replace H := bA H
      obtain ⟨t465, A13, H⟩ := H
      obtain rfl := Option.some.inj H
      go_enter Tryz.func55, Tryz.ntmps55
      go_wp2_with (first | ((with_reducible refine gD 1 ?_); refine bxE 1 32 #[.int .i64 a0_0, .int .i64 a0_1, .int .i64 a0_2, .int .i64 a0_3, .int .i64 a0_4] fun gb460 w14 hg hbox hb => ?_; have BK460 := Aside0.mk hbox; have GE460 := gB HB hg; replace HB := uB HB hb; clear hb hbox hg; have ⟨hcz15_0, hcz15_1, hcz15_2, hcz15_3, hcz15_4, hfz15_0⟩ := cz5 BK460) | ((with_reducible refine gC 81 ?_); refine lA (some 5) Tryz.func81 (spec_l4Station.calls a0_0 true _ A2.out) ?_; rintro _ ⟨nd, rfl⟩) | (go_at_call 81; (with_reducible refine (spec_l4Station.calls a0_1 true _ A4.out).mono ?_); rintro e w' ⟨rfl, ⟨nd, rfl⟩⟩) | (go_at_call 64; (with_reducible refine (spec_l1In.calls a0_2 1 500 true _ A9.out).mono ?_); rintro e w' ⟨rfl, ⟨nd, rfl⟩⟩) | (go_at_call 82; (with_reducible refine (spec_l2Bearing.calls a0_3 true _ A11.out).mono ?_); rintro e w' ⟨rfl, ⟨nd, rfl⟩⟩) | (go_at_call 64; (with_reducible refine (spec_l1In.calls a0_4 (-90) 90 t465 _ A13.out).mono ?_); rintro e w' ⟨rfl, ⟨nd, rfl⟩⟩))
      go_ret
      exact ⟨eB, (bW HB)⟩
     ·replace H := iF (by decide) H
      obtain rfl := Option.some.inj H
      go_enter Tryz.func55, Tryz.ntmps55
      go_wp2_with (first | ((with_reducible refine gD 1 ?_); refine bxE 1 32 #[.int .i64 a0_0, .int .i64 a0_1, .int .i64 a0_2, .int .i64 a0_3, .int .i64 a0_4] fun gb460 w16 hg hbox hb => ?_; have BK460 := Aside0.mk hbox; have GE460 := gB HB hg; replace HB := uB HB hb; clear hb hbox hg; have ⟨hcz17_0, hcz17_1, hcz17_2, hcz17_3, hcz17_4, hfz17_0⟩ := cz5 BK460) | ((with_reducible refine gC 81 ?_); refine lA (some 5) Tryz.func81 (spec_l4Station.calls a0_0 true _ A2.out) ?_; rintro _ ⟨nd, rfl⟩) | (go_at_call 81; (with_reducible refine (spec_l4Station.calls a0_1 true _ A4.out).mono ?_); rintro e w' ⟨rfl, ⟨nd, rfl⟩⟩) | (go_at_call 64; (with_reducible refine (spec_l1In.calls a0_2 1 500 true _ A9.out).mono ?_); rintro e w' ⟨rfl, ⟨nd, rfl⟩⟩) | (go_at_call 82; (with_reducible refine (spec_l2Bearing.calls a0_3 false _ A11.out).mono ?_); rintro e w' ⟨rfl, ⟨nd, rfl⟩⟩))
      go_ret
      exact ⟨eB, (bW HB)⟩
    ·replace H := iF (by decide) H
     obtain rfl := Option.some.inj H
     go_enter Tryz.func55, Tryz.ntmps55
     go_wp2_with (first | ((with_reducible refine gD 1 ?_); refine bxE 1 32 #[.int .i64 a0_0, .int .i64 a0_1, .int .i64 a0_2, .int .i64 a0_3, .int .i64 a0_4] fun gb460 w18 hg hbox hb => ?_; have BK460 := Aside0.mk hbox; have GE460 := gB HB hg; replace HB := uB HB hb; clear hb hbox hg; have ⟨hcz19_0, hcz19_1, hcz19_2, hcz19_3, hcz19_4, hfz19_0⟩ := cz5 BK460) | ((with_reducible refine gC 81 ?_); refine lA (some 5) Tryz.func81 (spec_l4Station.calls a0_0 true _ A2.out) ?_; rintro _ ⟨nd, rfl⟩) | (go_at_call 81; (with_reducible refine (spec_l4Station.calls a0_1 true _ A4.out).mono ?_); rintro e w' ⟨rfl, ⟨nd, rfl⟩⟩) | (go_at_call 64; (with_reducible refine (spec_l1In.calls a0_2 1 500 false _ A9.out).mono ?_); rintro e w' ⟨rfl, ⟨nd, rfl⟩⟩))
     go_ret
     exact ⟨eB, (bW HB)⟩
  ·replace H := iF (by decide) H
   obtain rfl := Option.some.inj H
   go_enter Tryz.func55, Tryz.ntmps55
   go_wp2_with (first | ((with_reducible refine gD 1 ?_); refine bxE 1 32 #[.int .i64 a0_0, .int .i64 a0_1, .int .i64 a0_2, .int .i64 a0_3, .int .i64 a0_4] fun gb460 w20 hg hbox hb => ?_; have BK460 := Aside0.mk hbox; have GE460 := gB HB hg; replace HB := uB HB hb; clear hb hbox hg; have ⟨hcz21_0, hcz21_1, hcz21_2, hcz21_3, hcz21_4, hfz21_0⟩ := cz5 BK460) | ((with_reducible refine gC 81 ?_); refine lA (some 5) Tryz.func81 (spec_l4Station.calls a0_0 true _ A2.out) ?_; rintro _ ⟨nd, rfl⟩) | (go_at_call 81; (with_reducible refine (spec_l4Station.calls a0_1 false _ A4.out).mono ?_); rintro e w' ⟨rfl, ⟨nd, rfl⟩⟩))
   go_ret
   exact ⟨eB, (bW HB)⟩
 ·replace H := iF (by decide) H
  obtain rfl := Option.some.inj H
  go_enter Tryz.func55, Tryz.ntmps55
  go_wp2_with (first | ((with_reducible refine gD 1 ?_); refine bxE 1 32 #[.int .i64 a0_0, .int .i64 a0_1, .int .i64 a0_2, .int .i64 a0_3, .int .i64 a0_4] fun gb460 w22 hg hbox hb => ?_; have BK460 := Aside0.mk hbox; have GE460 := gB HB hg; replace HB := uB HB hb; clear hb hbox hg; have ⟨hcz23_0, hcz23_1, hcz23_2, hcz23_3, hcz23_4, hfz23_0⟩ := cz5 BK460) | ((with_reducible refine gC 81 ?_); refine lA (some 5) Tryz.func81 (spec_l4Station.calls a0_0 false _ A2.out) ?_; rintro _ ⟨nd, rfl⟩))
  go_ret
  exact ⟨eB, (bW HB)⟩

/-! ### spec_l4Legs: function 31 -/
def spec_l4Legs.l0 : Nat → List (S32) → Int → Option (Bool)
 | 0, _, _ => none
 | k + 1, x0, x3 => if x3 < (x0.length : Int) then (if 0 ≤ x3 then ((spec_l4Leg.f ((rd_T32 x0 x3).f0) ((rd_T32 x0 x3).f1) ((rd_T32 x0 x3).f2) ((rd_T32 x0 x3).f3) ((rd_T32 x0 x3).f4)).bind fun t467 => (if t467 = true then (spec_l4Legs.l0 k x0 (wrap64 (x3 + 1))) else (some false))) else (none)) else (some (decide ((x0.length : Int) ≤ 12)))
def spec_l4Legs.f (k : Nat) (l0 : List (S32)) : Option (Bool) := spec_l4Legs.l0 k l0 0
theorem spec_l4Legs.mono_l : ∀ k, (∀ y0 y1, LeO (spec_l4Legs.l0 k y0 y1) (spec_l4Legs.l0 (k + 1) y0 y1))
 | 0 => fun _ _ r h => by simp [spec_l4Legs.l0] at h
 | k + 1 => by
  have ih0 := spec_l4Legs.mono_l k
  ·intro y0 y1
   unfold spec_l4Legs.l0
   repeat' with_reducible first | apply ih0 | exact LeO.refl _ | exact LeO.none _ | refine LeO.ite ?_ ?_ | refine LeO.bind ?_ (fun _ => ?_)
theorem spec_l4Legs.mono : ∀ a0 k, LeO (spec_l4Legs.f k a0) (spec_l4Legs.f (k + 1) a0) := by
 intro a0 k
 have ih0 := spec_l4Legs.mono_l k
 unfold spec_l4Legs.f
 repeat' with_reducible first | apply ih0 | exact LeO.refl _ | exact LeO.none _ | refine LeO.ite ?_ ?_ | refine LeO.bind ?_ (fun _ => ?_)
set_option maxHeartbeats 8000000 in
set_option maxRecDepth 100000 in
theorem spec_l4Legs.calls (k : Nat) (A0 : Option Addr) (c0 : Nat) (l0 : List (S32)) (r : Bool) (w : World) (hr0 : Kd.C k32 w A0 l0.length l0) (hc0 : l0.length ≤ c0) (h : spec_l4Legs.f k l0 = some r) :
 Calls Tryz.prog 31 #[.slice A0 l0.length c0] w fun e w' => e = .returned (.bool r) ∧ Below w.heap.size w w' := by
 have hu32 := Tryz.underlying32
 have HR0 := Aside0.mk hr0
 have HC0 := Aside0.mk hc0
 clear hr0 hc0
 have HB := Aside0.mk (Below.refl w.heap.size w)
 have H : (spec_l4Legs.l0 k l0 0) = some r := h
 clear h
 have H' := Aside0.mk H
 clear H
 go_enter Tryz.func31, Tryz.ntmps31
 go_wp2
 go_loopg [3] k (fun kq v3 w' => ∃ (x3_1 : Int), v3 = .int .i64 x3_1 ∧ Aside0 (spec_l4Legs.l0 kq l0 x3_1 = some r) ∧ Aside0 (kq ≤ k) ∧ Aside0 (Below w.heap.size w w'))
 case atStart => exact ⟨(0), rB, H', ⟨Nat.le_refl _⟩, (aB HB)⟩
 case round =>
  clear H'
  obtain ⟨x3_1, rfl, HA, HK1, HB⟩ := hrel
  cases gk with
  | zero => exact absurd HA.out (by simp [spec_l4Legs.l0])
  | succ k1 =>
   have H := HA.out
   clear HA
   simp only [spec_l4Legs.l0] at H
   replace H := ifD H
   rcases H with ⟨H, -, c2b0⟩ | ⟨H, -, c2b0⟩
   ·replace H := zN H
    obtain ⟨c3b0, H⟩ := H
    replace H := bA H
    obtain ⟨t467, A4, H⟩ := H
    rcases Bool.eq_false_or_eq_true t467 with rfl | rfl
    ·replace H := iT rfl H
     have H' := Aside0.mk H
     clear H
     obtain ⟨ad466, e466, hx466_0, hx466_1, hx466_2, hx466_3, hx466_4, p466, q466⟩ := zT HR0 HB x3_1
     cases e466
     go_wp2_with (first | ((with_reducible refine gC 55 ?_); refine lA (some 14) Tryz.func55 (spec_l4Leg.calls ((rd_T32 l0 x3_1).f0) ((rd_T32 l0 x3_1).f1) ((rd_T32 l0 x3_1).f2) ((rd_T32 l0 x3_1).f3) ((rd_T32 l0 x3_1).f4) true _ A4.out) ?_; intro w6 hb; replace HB := uB HB hb; (try clear hb)))
     go_roundg k1
     case measure => have := HK1.out; omega
     case rel => exact ⟨(wrap64 (x3_1 + 1)), rB, H', ⟨by have := HK1.out; omega⟩, (aB HB)⟩
    ·replace H := iF (by decide) H
     obtain rfl := Option.some.inj H
     obtain ⟨ad466, e466, hx466_0, hx466_1, hx466_2, hx466_3, hx466_4, p466, q466⟩ := zT HR0 HB x3_1
     cases e466
     go_wp2_with (first | ((with_reducible refine gC 55 ?_); refine lA (some 14) Tryz.func55 (spec_l4Leg.calls ((rd_T32 l0 x3_1).f0) ((rd_T32 l0 x3_1).f1) ((rd_T32 l0 x3_1).f2) ((rd_T32 l0 x3_1).f3) ((rd_T32 l0 x3_1).f4) false _ A4.out) ?_; intro w7 hb; replace HB := uB HB hb; (try clear hb)))
     go_ret
     exact ⟨eB, (bW HB)⟩
   ·obtain rfl := Option.some.inj H
    go_wp2
    go_ret
    exact ⟨eB, (bW HB)⟩

/-! ### spec_l1Rising: function 42 -/
def spec_l1Rising.l0 : Nat → List Int → Int → Int → Int → Option (Bool)
 | 0, _, _, _, _ => none
 | k + 1, x0, x1, x2, x7 => if x7 < (x0.length : Int) then (if 0 ≤ x7 then ((spec_l1In.f (rd x0 x7) x1 x2).bind fun t469 => (if t469 = true then (if x7 > 0 then (if 0 ≤ (wrap64 (x7 - 1)) then (if (wrap64 (x7 - 1)) < (x0.length : Int) then (if (rd x0 (wrap64 (x7 - 1))) ≥ (rd x0 x7) then (some false) else (spec_l1Rising.l0 k x0 x1 x2 (wrap64 (x7 + 1)))) else (none)) else (none)) else (spec_l1Rising.l0 k x0 x1 x2 (wrap64 (x7 + 1)))) else (some false))) else (none)) else (some true)
def spec_l1Rising.f (k : Nat) (l0 : List Int) (a1 a2 : Int) : Option (Bool) := spec_l1Rising.l0 k l0 a1 a2 0
theorem spec_l1Rising.mono_l : ∀ k, (∀ y0 y1 y2 y3, LeO (spec_l1Rising.l0 k y0 y1 y2 y3) (spec_l1Rising.l0 (k + 1) y0 y1 y2 y3))
 | 0 => fun _ _ _ _ r h => by simp [spec_l1Rising.l0] at h
 | k + 1 => by
  have ih0 := spec_l1Rising.mono_l k
  ·intro y0 y1 y2 y3
   unfold spec_l1Rising.l0
   repeat' with_reducible first | apply ih0 | exact LeO.refl _ | exact LeO.none _ | refine LeO.ite ?_ ?_ | refine LeO.bind ?_ (fun _ => ?_)
theorem spec_l1Rising.mono : ∀ a0 a1 a2 k, LeO (spec_l1Rising.f k a0 a1 a2) (spec_l1Rising.f (k + 1) a0 a1 a2) := by
 intro a0 a1 a2 k
 have ih0 := spec_l1Rising.mono_l k
 unfold spec_l1Rising.f
 repeat' with_reducible first | apply ih0 | exact LeO.refl _ | exact LeO.none _ | refine LeO.ite ?_ ?_ | refine LeO.bind ?_ (fun _ => ?_)
set_option maxHeartbeats 8000000 in
set_option maxRecDepth 100000 in
theorem spec_l1Rising.calls (k : Nat) (A0 : Option Addr) (c0 : Nat) (l0 : List Int) (a1 a2 : Int) (r : Bool) (w : World) (hr0 : Kd.C (Kd.int .i64) w A0 l0.length l0) (hc0 : l0.length ≤ c0) (h : spec_l1Rising.f k l0 a1 a2 = some r) :
 Calls Tryz.prog 42 #[.slice A0 l0.length c0, .int .i64 a1, .int .i64 a2] w fun e w' => e = .returned (.bool r) ∧ Drawn0 w w' := by
 have HR0 := Aside0.mk hr0
 have HC0 := Aside0.mk hc0
 clear hr0 hc0
 have H : (spec_l1Rising.l0 k l0 a1 a2 0) = some r := h
 clear h
 have H' := Aside0.mk H
 clear H
 go_enter Tryz.func42, Tryz.ntmps42
 go_wp2
 go_loopg [7] k (fun kq v7 w' => ∃ (x7_1 : Int), v7 = .int .i64 x7_1 ∧ Aside0 (spec_l1Rising.l0 kq l0 a1 a2 x7_1 = some r) ∧ Aside0 (kq ≤ k) ∧ Drawn0 w w')
 case atStart => exact ⟨(0), rB, H', ⟨Nat.le_refl _⟩, by repeat (first | exact Drawn0.refl _ | apply Drawn0.step)⟩
 case round =>
  clear H'
  obtain ⟨x7_1, rfl, HA, HK1, ⟨m1, rfl⟩⟩ := hrel
  cases gk with
  | zero => exact absurd HA.out (by simp [spec_l1Rising.l0])
  | succ k1 =>
   have H := HA.out
   clear HA
   simp only [spec_l1Rising.l0] at H
   replace H := ifD H
   rcases H with ⟨H, -, c4b0⟩ | ⟨H, -, c4b0⟩
   ·replace H := zN H
    obtain ⟨c5b0, H⟩ := H
    replace H := bA H
    obtain ⟨t469, A6, H⟩ := H
    rcases Bool.eq_false_or_eq_true t469 with rfl | rfl
    ·replace H := iT rfl H
     replace H := ifD H
     rcases H with ⟨H, -, c8b0⟩ | ⟨H, -, c8b0⟩
     ·obtain ⟨ji9, hji9⟩ : ∃ j_ : Int, (wrap64 (x7_1 - 1)) = j_ := ⟨_, rfl⟩
      replace H : (if 0 ≤ (ji9) then (if (ji9) < (l0.length : Int) then (if (rd l0 (ji9)) ≥ (rd l0 x7_1) then (some false) else (spec_l1Rising.l0 k1 l0 a1 a2 (wrap64 (x7_1 + 1)))) else (none)) else (none)) = some r := by first | (rw [hji9] at H; exact H) | (simp only [hji9] at H ⊢; exact H)
      (try rw [hji9] at A6)
      have hji9w : (IntKind.i64.wrap (x7_1 - 1)) = ji9 := (i64_w _).trans hji9
      replace H := zN H
      obtain ⟨c10b0, H⟩ := H
      replace H := zN H
      obtain ⟨c11b0, H⟩ := H
      replace H := ifD H
      rcases H with ⟨H, -, c12b0⟩ | ⟨H, -, c12b0⟩
      ·obtain rfl := Option.some.inj H
       have p468 : 0 ≤ (x7_1 : Int) := of_decide_eq_true asmB
       have q468 : x7_1 < (l0.length : Int) := of_decide_eq_true asmB
       obtain ⟨ad468, e468, hx468_0⟩ := Kd.at_int HR0.out x7_1 p468 q468
       cases e468
       replace p468 := eq_true p468
       replace q468 := eq_true q468
       go_wp2_with (first | (go_at_call 64; (with_reducible refine (spec_l1In.calls (rd l0 x7_1) a1 a2 true _ A6.out).mono ?_); rintro e w' ⟨rfl, ⟨nd, rfl⟩⟩; (try first | exact zQ | exact zQ2); have p470 : 0 ≤ ((ji9) : Int) := of_decide_eq_true asmB; have q470 : (ji9) < (l0.length : Int) := of_decide_eq_true asmB; obtain ⟨ad470, e470, hx470_0⟩ := Kd.at_int HR0.out (ji9) p470 q470; obtain rfl : ad468 = ad470 := (by injection e470); replace p470 := eq_true p470; replace q470 := eq_true q470; have p471 : 0 ≤ (x7_1 : Int) := of_decide_eq_true asmB; have q471 : x7_1 < (l0.length : Int) := of_decide_eq_true asmB; obtain ⟨ad471, e471, hx471_0⟩ := Kd.at_int HR0.out x7_1 p471 q471; obtain rfl : ad468 = ad471 := (by injection e471); replace p471 := eq_true p471; replace q471 := eq_true q471))
       repeat (go_quiet (first | (go_at_call 64; (with_reducible refine (spec_l1In.calls (rd l0 x7_1) a1 a2 true _ A6.out).mono ?_); rintro e w' ⟨rfl, ⟨nd, rfl⟩⟩; (try first | exact zQ | exact zQ2); have p470 : 0 ≤ ((ji9) : Int) := of_decide_eq_true asmB; have q470 : (ji9) < (l0.length : Int) := of_decide_eq_true asmB; obtain ⟨ad470, e470, hx470_0⟩ := Kd.at_int HR0.out (ji9) p470 q470; obtain rfl : ad468 = ad470 := (by injection e470); replace p470 := eq_true p470; replace q470 := eq_true q470; have p471 : 0 ≤ (x7_1 : Int) := of_decide_eq_true asmB; have q471 : x7_1 < (l0.length : Int) := of_decide_eq_true asmB; obtain ⟨ad471, e471, hx471_0⟩ := Kd.at_int HR0.out x7_1 p471 q471; obtain rfl : ad468 = ad471 := (by injection e471); replace p471 := eq_true p471; replace q471 := eq_true q471)); try go_wp2_with (first | (go_at_call 64; (with_reducible refine (spec_l1In.calls (rd l0 x7_1) a1 a2 true _ A6.out).mono ?_); rintro e w' ⟨rfl, ⟨nd, rfl⟩⟩; (try first | exact zQ | exact zQ2); have p470 : 0 ≤ ((ji9) : Int) := of_decide_eq_true asmB; have q470 : (ji9) < (l0.length : Int) := of_decide_eq_true asmB; obtain ⟨ad470, e470, hx470_0⟩ := Kd.at_int HR0.out (ji9) p470 q470; obtain rfl : ad468 = ad470 := (by injection e470); replace p470 := eq_true p470; replace q470 := eq_true q470; have p471 : 0 ≤ (x7_1 : Int) := of_decide_eq_true asmB; have q471 : x7_1 < (l0.length : Int) := of_decide_eq_true asmB; obtain ⟨ad471, e471, hx471_0⟩ := Kd.at_int HR0.out x7_1 p471 q471; obtain rfl : ad468 = ad471 := (by injection e471); replace p471 := eq_true p471; replace q471 := eq_true q471)))
       go_ret
       exact ⟨by first | rfl | (simp; done) | (simp only [← hji9] <;> (first | rfl | simp)) | (simp [*]; done), by repeat (first | exact Drawn0.refl _ | apply Drawn0.step)⟩
      ·have H' := Aside0.mk H
       clear H
       have p468 : 0 ≤ (x7_1 : Int) := of_decide_eq_true asmB
       have q468 : x7_1 < (l0.length : Int) := of_decide_eq_true asmB
       obtain ⟨ad468, e468, hx468_0⟩ := Kd.at_int HR0.out x7_1 p468 q468
       cases e468
       replace p468 := eq_true p468
       replace q468 := eq_true q468
       go_wp2_with (first | (go_at_call 64; (with_reducible refine (spec_l1In.calls (rd l0 x7_1) a1 a2 true _ A6.out).mono ?_); rintro e w' ⟨rfl, ⟨nd, rfl⟩⟩; (try first | exact zQ | exact zQ2); have p470 : 0 ≤ ((ji9) : Int) := of_decide_eq_true asmB; have q470 : (ji9) < (l0.length : Int) := of_decide_eq_true asmB; obtain ⟨ad470, e470, hx470_0⟩ := Kd.at_int HR0.out (ji9) p470 q470; obtain rfl : ad468 = ad470 := (by injection e470); replace p470 := eq_true p470; replace q470 := eq_true q470; have p471 : 0 ≤ (x7_1 : Int) := of_decide_eq_true asmB; have q471 : x7_1 < (l0.length : Int) := of_decide_eq_true asmB; obtain ⟨ad471, e471, hx471_0⟩ := Kd.at_int HR0.out x7_1 p471 q471; obtain rfl : ad468 = ad471 := (by injection e471); replace p471 := eq_true p471; replace q471 := eq_true q471))
       repeat (go_quiet (first | (go_at_call 64; (with_reducible refine (spec_l1In.calls (rd l0 x7_1) a1 a2 true _ A6.out).mono ?_); rintro e w' ⟨rfl, ⟨nd, rfl⟩⟩; (try first | exact zQ | exact zQ2); have p470 : 0 ≤ ((ji9) : Int) := of_decide_eq_true asmB; have q470 : (ji9) < (l0.length : Int) := of_decide_eq_true asmB; obtain ⟨ad470, e470, hx470_0⟩ := Kd.at_int HR0.out (ji9) p470 q470; obtain rfl : ad468 = ad470 := (by injection e470); replace p470 := eq_true p470; replace q470 := eq_true q470; have p471 : 0 ≤ (x7_1 : Int) := of_decide_eq_true asmB; have q471 : x7_1 < (l0.length : Int) := of_decide_eq_true asmB; obtain ⟨ad471, e471, hx471_0⟩ := Kd.at_int HR0.out x7_1 p471 q471; obtain rfl : ad468 = ad471 := (by injection e471); replace p471 := eq_true p471; replace q471 := eq_true q471)); try go_wp2_with (first | (go_at_call 64; (with_reducible refine (spec_l1In.calls (rd l0 x7_1) a1 a2 true _ A6.out).mono ?_); rintro e w' ⟨rfl, ⟨nd, rfl⟩⟩; (try first | exact zQ | exact zQ2); have p470 : 0 ≤ ((ji9) : Int) := of_decide_eq_true asmB; have q470 : (ji9) < (l0.length : Int) := of_decide_eq_true asmB; obtain ⟨ad470, e470, hx470_0⟩ := Kd.at_int HR0.out (ji9) p470 q470; obtain rfl : ad468 = ad470 := (by injection e470); replace p470 := eq_true p470; replace q470 := eq_true q470; have p471 : 0 ≤ (x7_1 : Int) := of_decide_eq_true asmB; have q471 : x7_1 < (l0.length : Int) := of_decide_eq_true asmB; obtain ⟨ad471, e471, hx471_0⟩ := Kd.at_int HR0.out x7_1 p471 q471; obtain rfl : ad468 = ad471 := (by injection e471); replace p471 := eq_true p471; replace q471 := eq_true q471)))
       go_roundg k1
       case measure => have := HK1.out; omega
       case rel => exact ⟨(wrap64 (x7_1 + 1)), rB, H', ⟨by have := HK1.out; omega⟩, by repeat (first | exact Drawn0.refl _ | apply Drawn0.step)⟩
     ·have H' := Aside0.mk H
      clear H
      have p468 : 0 ≤ (x7_1 : Int) := of_decide_eq_true asmB
      have q468 : x7_1 < (l0.length : Int) := of_decide_eq_true asmB
      obtain ⟨ad468, e468, hx468_0⟩ := Kd.at_int HR0.out x7_1 p468 q468
      cases e468
      replace p468 := eq_true p468
      replace q468 := eq_true q468
      go_wp2_with (first | (go_at_call 64; (with_reducible refine (spec_l1In.calls (rd l0 x7_1) a1 a2 true _ A6.out).mono ?_); rintro e w' ⟨rfl, ⟨nd, rfl⟩⟩; (try first | exact zQ | exact zQ2)))
      repeat (go_quiet (first | (go_at_call 64; (with_reducible refine (spec_l1In.calls (rd l0 x7_1) a1 a2 true _ A6.out).mono ?_); rintro e w' ⟨rfl, ⟨nd, rfl⟩⟩; (try first | exact zQ | exact zQ2))); try go_wp2_with (first | (go_at_call 64; (with_reducible refine (spec_l1In.calls (rd l0 x7_1) a1 a2 true _ A6.out).mono ?_); rintro e w' ⟨rfl, ⟨nd, rfl⟩⟩; (try first | exact zQ | exact zQ2))))
      go_roundg k1
      case measure => have := HK1.out; omega
      case rel => exact ⟨(wrap64 (x7_1 + 1)), rB, H', ⟨by have := HK1.out; omega⟩, by repeat (first | exact Drawn0.refl _ | apply Drawn0.step)⟩
    ·replace H := iF (by decide) H
     obtain rfl := Option.some.inj H
     have p468 : 0 ≤ (x7_1 : Int) := of_decide_eq_true asmB
     have q468 : x7_1 < (l0.length : Int) := of_decide_eq_true asmB
     obtain ⟨ad468, e468, hx468_0⟩ := Kd.at_int HR0.out x7_1 p468 q468
     cases e468
     replace p468 := eq_true p468
     replace q468 := eq_true q468
     go_wp2_with (first | (go_at_call 64; (with_reducible refine (spec_l1In.calls (rd l0 x7_1) a1 a2 false _ A6.out).mono ?_); rintro e w' ⟨rfl, ⟨nd, rfl⟩⟩; (try first | exact zQ | exact zQ2)))
     repeat (go_quiet (first | (go_at_call 64; (with_reducible refine (spec_l1In.calls (rd l0 x7_1) a1 a2 false _ A6.out).mono ?_); rintro e w' ⟨rfl, ⟨nd, rfl⟩⟩; (try first | exact zQ | exact zQ2))); try go_wp2_with (first | (go_at_call 64; (with_reducible refine (spec_l1In.calls (rd l0 x7_1) a1 a2 false _ A6.out).mono ?_); rintro e w' ⟨rfl, ⟨nd, rfl⟩⟩; (try first | exact zQ | exact zQ2))))
     go_ret
     exact ⟨rB, by repeat (first | exact Drawn0.refl _ | apply Drawn0.step)⟩
   ·obtain rfl := Option.some.inj H
    go_wp2
    go_ret
    exact ⟨rB, by repeat (first | exact Drawn0.refl _ | apply Drawn0.step)⟩

/-! ### spec_l17Asked: function 24 -/
def spec_l17Asked.f (k : Nat) (l0 : List (S32)) (l1 : List Int) : Option (Bool) := (spec_l4Legs.f k l0).bind fun t472 => (if t472 = true then ((spec_l1Rising.f k l1 0 7).bind fun t473 => (some t473)) else (some false))
theorem spec_l17Asked.mono : ∀ a0 a1 k, LeO (spec_l17Asked.f k a0 a1) (spec_l17Asked.f (k + 1) a0 a1) := by
 intro a0 a1 k
 unfold spec_l17Asked.f
 repeat' with_reducible first | apply spec_l1Rising.mono | apply spec_l4Legs.mono | exact LeO.refl _ | exact LeO.none _ | refine LeO.ite ?_ ?_ | refine LeO.bind ?_ (fun _ => ?_)
set_option maxHeartbeats 8000000 in
set_option maxRecDepth 100000 in
theorem spec_l17Asked.calls (k : Nat) (A0 : Option Addr) (c0 : Nat) (l0 : List (S32)) (A1 : Option Addr) (c1 : Nat) (l1 : List Int) (r : Bool) (w : World) (hr0 : Kd.C k32 w A0 l0.length l0) (hc0 : l0.length ≤ c0) (hr1 : Kd.C (Kd.int .i64) w A1 l1.length l1) (hc1 : l1.length ≤ c1) (h : spec_l17Asked.f k l0 l1 = some r) :
 Calls Tryz.prog 24 #[.slice A0 l0.length c0, .slice A1 l1.length c1] w fun e w' => e = .returned (.bool r) ∧ Below w.heap.size w w' := by
 have HR0 := Aside0.mk hr0
 have HC0 := Aside0.mk hc0
 clear hr0 hc0
 have HR1 := Aside0.mk hr1
 have HC1 := Aside0.mk hc1
 clear hr1 hc1
 have HB := Aside0.mk (Below.refl w.heap.size w)
 have H := h
 clear h
 unfold spec_l17Asked.f at H
 replace H := bA H
 obtain ⟨t472, A3, H⟩ := H
 rcases Bool.eq_false_or_eq_true t472 with rfl | rfl
 ·replace H := iT rfl H
  replace H := bA H
  obtain ⟨t473, A5, H⟩ := H
  obtain rfl := Option.some.inj H
  go_enter Tryz.func24, Tryz.ntmps24
  go_wp2_with (first | ((with_reducible refine gC 31 ?_); refine lA (some 6) Tryz.func31 (spec_l4Legs.calls k _ _ l0 true _ ?side1 ?side2 A3.out) ?_; (case side1 => exact zC HR0); (case side2 => exact HC0.out); intro w6 hb; replace HB := uB HB hb; (try clear hb)) | (go_at_call 42; (with_reducible refine (spec_l1Rising.calls k _ _ l1 0 7 t473 _ ?side1 ?side2 A5.out).mono ?_); (case side1 => exact zCB HR1 HB); (case side2 => exact HC1.out); rintro e w' ⟨rfl, ⟨nd, rfl⟩⟩))
  go_ret
  exact ⟨eB, (bW HB)⟩
 ·replace H := iF (by decide) H
  obtain rfl := Option.some.inj H
  go_enter Tryz.func24, Tryz.ntmps24
  go_wp2_with (first | ((with_reducible refine gC 31 ?_); refine lA (some 6) Tryz.func31 (spec_l4Legs.calls k _ _ l0 false _ ?side1 ?side2 A3.out) ?_; (case side1 => exact zC HR0); (case side2 => exact HC0.out); intro w7 hb; replace HB := uB HB hb; (try clear hb)))
  go_ret
  exact ⟨eB, (bW HB)⟩

/-! ### spec_l1Has: function 43 -/
def spec_l1Has.l0 : Nat → List Int → Int → Int → Option (Bool)
 | 0, _, _, _ => none
 | k + 1, x0, x1, x5 => if x5 < (x0.length : Int) then (if 0 ≤ x5 then (if (rd x0 x5) = x1 then (some true) else (spec_l1Has.l0 k x0 x1 (wrap64 (x5 + 1)))) else (none)) else (some false)
def spec_l1Has.f (k : Nat) (l0 : List Int) (a1 : Int) : Option (Bool) := spec_l1Has.l0 k l0 a1 0
theorem spec_l1Has.mono_l : ∀ k, (∀ y0 y1 y2, LeO (spec_l1Has.l0 k y0 y1 y2) (spec_l1Has.l0 (k + 1) y0 y1 y2))
 | 0 => fun _ _ _ r h => by simp [spec_l1Has.l0] at h
 | k + 1 => by
  have ih0 := spec_l1Has.mono_l k
  ·intro y0 y1 y2
   unfold spec_l1Has.l0
   repeat' with_reducible first | apply ih0 | exact LeO.refl _ | exact LeO.none _ | refine LeO.ite ?_ ?_ | refine LeO.bind ?_ (fun _ => ?_)
theorem spec_l1Has.mono : ∀ a0 a1 k, LeO (spec_l1Has.f k a0 a1) (spec_l1Has.f (k + 1) a0 a1) := by
 intro a0 a1 k
 have ih0 := spec_l1Has.mono_l k
 unfold spec_l1Has.f
 repeat' with_reducible first | apply ih0 | exact LeO.refl _ | exact LeO.none _ | refine LeO.ite ?_ ?_ | refine LeO.bind ?_ (fun _ => ?_)
set_option maxHeartbeats 8000000 in
set_option maxRecDepth 100000 in
theorem spec_l1Has.calls (k : Nat) (A0 : Option Addr) (c0 : Nat) (l0 : List Int) (a1 : Int) (r : Bool) (w : World) (hr0 : Kd.C (Kd.int .i64) w A0 l0.length l0) (hc0 : l0.length ≤ c0) (h : spec_l1Has.f k l0 a1 = some r) :
 Calls Tryz.prog 43 #[.slice A0 l0.length c0, .int .i64 a1] w fun e w' => e = .returned (.bool r) ∧ Drawn0 w w' := by
 have HR0 := Aside0.mk hr0
 have HC0 := Aside0.mk hc0
 clear hr0 hc0
 have H : (spec_l1Has.l0 k l0 a1 0) = some r := h
 clear h
 have H' := Aside0.mk H
 clear H
 go_enter Tryz.func43, Tryz.ntmps43
 go_wp2
 go_loopg [5] k (fun kq v5 w' => ∃ (x5_1 : Int), v5 = .int .i64 x5_1 ∧ Aside0 (spec_l1Has.l0 kq l0 a1 x5_1 = some r) ∧ Aside0 (kq ≤ k) ∧ Drawn0 w w')
 case atStart => exact ⟨(0), rB, H', ⟨Nat.le_refl _⟩, by repeat (first | exact Drawn0.refl _ | apply Drawn0.step)⟩
 case round =>
  clear H'
  obtain ⟨x5_1, rfl, HA, HK1, ⟨m1, rfl⟩⟩ := hrel
  cases gk with
  | zero => exact absurd HA.out (by simp [spec_l1Has.l0])
  | succ k1 =>
   have H := HA.out
   clear HA
   simp only [spec_l1Has.l0] at H
   replace H := ifD H
   rcases H with ⟨H, -, c3b0⟩ | ⟨H, -, c3b0⟩
   ·replace H := zN H
    obtain ⟨c4b0, H⟩ := H
    replace H := ifI H
    rcases H with ⟨H, -, c5b0, c5b1⟩ | ⟨H, c5, c5b0, c5b1⟩
    ·obtain rfl := Option.some.inj H
     have p474 : 0 ≤ (x5_1 : Int) := of_decide_eq_true asmB
     have q474 : x5_1 < (l0.length : Int) := of_decide_eq_true asmB
     obtain ⟨ad474, e474, hx474_0⟩ := Kd.at_int HR0.out x5_1 p474 q474
     cases e474
     replace p474 := eq_true p474
     replace q474 := eq_true q474
     go_wp2
     go_ret
     exact ⟨rB, by repeat (first | exact Drawn0.refl _ | apply Drawn0.step)⟩
    ·have H' := Aside0.mk H
     clear H
     have p474 : 0 ≤ (x5_1 : Int) := of_decide_eq_true asmB
     have q474 : x5_1 < (l0.length : Int) := of_decide_eq_true asmB
     obtain ⟨ad474, e474, hx474_0⟩ := Kd.at_int HR0.out x5_1 p474 q474
     cases e474
     replace p474 := eq_true p474
     replace q474 := eq_true q474
     go_wp2
     go_roundg k1
     case measure => have := HK1.out; omega
     case rel => exact ⟨(wrap64 (x5_1 + 1)), rB, H', ⟨by have := HK1.out; omega⟩, by repeat (first | exact Drawn0.refl _ | apply Drawn0.step)⟩
   ·obtain rfl := Option.some.inj H
    go_wp2
    go_ret
    exact ⟨rB, by repeat (first | exact Drawn0.refl _ | apply Drawn0.step)⟩

end Go.Proofs.YtmfidodcpbochaaGreat.QFnSteps
