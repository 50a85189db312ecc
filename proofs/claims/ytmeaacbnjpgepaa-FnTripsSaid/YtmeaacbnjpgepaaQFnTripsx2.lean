/- Contracts of Go functions that FnTrips reaches: the call computes what the plain function says. No condition. -/
import Derived.Test.YtmeaacbnjpgepaaQFnTripsx0
namespace Go.Proofs.Ytmeaacbnjpgepaa.QFnTrips
open Go.RowKit Go.Proofs.YtmeaacbnjpgepaaW.PrintWords Go.Proofs.YtmeaacbnjpgepaaW.PrintLast Go.Proofs.YtmeaacbnjpgepaaW.PrintMore
attribute [local go_sem] max2_int min2_int max_two min_two max_three min_three max_four min_four   -- for this text's walks alone
set_option linter.unusedVariables false
set_option linter.unusedSimpArgs false

/-! ### spec_l1In: function 66 -/
def spec_l1In.f (a0 a1 a2 : Int) : Option (Bool) := if a0 ≥ a1 then (some (decide (a0 ≤ a2))) else (some false)
set_option maxHeartbeats 8000000 in
set_option maxRecDepth 100000 in
theorem spec_l1In.calls (a0 a1 a2 : Int) (r : Bool) (w : World) (h : spec_l1In.f a0 a1 a2 = some r) :
  Calls Try.prog 66 #[.int .i64 a0, .int .i64 a1, .int .i64 a2] w fun e w' => e = .returned (.bool r) ∧ Drawn0 w w' := by
 have H := h
 clear h
 unfold spec_l1In.f at H
 replace H := ifD H
 rcases H with ⟨H, -, c4b0⟩ | ⟨H, -, c4b0⟩
 ·obtain rfl := Option.some.inj H
  go_enter Try.func66, Try.ntmps66
  go_wp2
  go_ret
  exact ⟨rB, by repeat (first | exact Drawn0.refl _ | apply Drawn0.step)⟩
 ·obtain rfl := Option.some.inj H
  go_enter Try.func66, Try.ntmps66
  go_wp2
  go_ret
  exact ⟨rB, by repeat (first | exact Drawn0.refl _ | apply Drawn0.step)⟩

/-! ### spec_l21In: function 48 -/
def spec_l21In.f (a0 : Int) : Option (Bool) := (spec_l1In.f a0 1 3).bind fun t101 => (some t101)
set_option maxHeartbeats 8000000 in
set_option maxRecDepth 100000 in
theorem spec_l21In.calls (a0 : Int) (r : Bool) (w : World) (h : spec_l21In.f a0 = some r) :
  Calls Try.prog 48 #[.int .i64 a0] w fun e w' => e = .returned (.bool r) ∧ Drawn0 w w' := by
 have H := h
 clear h
 unfold spec_l21In.f at H
 replace H := bA H
 obtain ⟨t101, A2, H⟩ := H
 obtain rfl := Option.some.inj H
 go_enter Try.func48, Try.ntmps48
 go_wp2_with (first | ((with_reducible refine gC 66 ?_); refine lA (some 4) Try.func66 (spec_l1In.calls a0 1 3 t101 _ A2.out) ?_; rintro _ ⟨nd, rfl⟩))
 go_ret
 exact ⟨rB, by repeat (first | exact Drawn0.refl _ | apply Drawn0.step)⟩

/-! ### spec_l21Time: function 54 -/
def spec_l21Time.f (a0 : Int) : Option (Bool) := (spec_l1In.f a0 0 999).bind fun t102 => (some t102)
set_option maxHeartbeats 8000000 in
set_option maxRecDepth 100000 in
theorem spec_l21Time.calls (a0 : Int) (r : Bool) (w : World) (h : spec_l21Time.f a0 = some r) :
  Calls Try.prog 54 #[.int .i64 a0] w fun e w' => e = .returned (.bool r) ∧ Drawn0 w w' := by
 have H := h
 clear h
 unfold spec_l21Time.f at H
 replace H := bA H
 obtain ⟨t102, A2, H⟩ := H
 obtain rfl := Option.some.inj H
 go_enter Try.func54, Try.ntmps54
 go_wp2_with (first | ((with_reducible refine gC 66 ?_); refine lA (some 4) Try.func66 (spec_l1In.calls a0 0 999 t102 _ A2.out) ?_; rintro _ ⟨nd, rfl⟩))
 go_ret
 exact ⟨rB, by repeat (first | exact Drawn0.refl _ | apply Drawn0.step)⟩

/-! ### spec_l21Good: function 45 -/
def spec_l21Good.j0 : Nat → Bool → Int → Int → Int → Int → Int → Option (Bool)
 | 0, _, _, _, _, _, _ => none
 | k + 1, x24, x104000, x104001, x104002, x104003, x104004 => if x24 = true then (some false) else ((spec_l21In.f x104000).bind fun t108 => (if t108 = true then ((spec_l1In.f x104002 1 x104001).bind fun t109 => (if t109 = true then (some ((x104000 == 1) == (decide (x104004 ≤ x104003)))) else (some false))) else (some (x104002 == 0))))
def spec_l21Good.f (k : Nat) (a0_0 a0_1 a0_2 a0_3 a0_4 : Int) : Option (Bool) := (spec_l1In.f a0_0 0 5).bind fun t104 => (if t104 = true then ((spec_l1In.f a0_1 1 12).bind fun t105 => (if t105 = true then ((spec_l21Time.f a0_3).bind fun t106 => (if t106 = true then ((spec_l21Time.f a0_4).bind fun t107 => (spec_l21Good.j0 k (!t107) a0_0 a0_1 a0_2 a0_3 a0_4)) else (spec_l21Good.j0 k true a0_0 a0_1 a0_2 a0_3 a0_4))) else (spec_l21Good.j0 k true a0_0 a0_1 a0_2 a0_3 a0_4))) else (spec_l21Good.j0 k true a0_0 a0_1 a0_2 a0_3 a0_4))
theorem spec_l21Good.mono_l : ∀ k, (∀ y0 y1 y2 y3 y4 y5, LeO (spec_l21Good.j0 k y0 y1 y2 y3 y4 y5) (spec_l21Good.j0 (k + 1) y0 y1 y2 y3 y4 y5))
 | 0 => fun _ _ _ _ _ _ r h => by simp [spec_l21Good.j0] at h
 | k + 1 => by
  have ih0 := spec_l21Good.mono_l k
  ·intro y0 y1 y2 y3 y4 y5
   unfold spec_l21Good.j0
   repeat' with_reducible first | apply ih0 | exact LeO.refl _ | exact LeO.none _ | refine LeO.ite ?_ ?_ | refine LeO.bind ?_ (fun _ => ?_)
theorem spec_l21Good.mono : ∀ a0 a1 a2 a3 a4 k, LeO (spec_l21Good.f k a0 a1 a2 a3 a4) (spec_l21Good.f (k + 1) a0 a1 a2 a3 a4) := by
 intro a0 a1 a2 a3 a4 k
 have ih0 := spec_l21Good.mono_l k
 unfold spec_l21Good.f
 repeat' with_reducible first | apply ih0 | exact LeO.refl _ | exact LeO.none _ | refine LeO.ite ?_ ?_ | refine LeO.bind ?_ (fun _ => ?_)
set_option maxHeartbeats 8000000 in
set_option maxRecDepth 100000 in
theorem spec_l21Good.calls (k : Nat) (a0_0 a0_1 a0_2 a0_3 a0_4 : Int) (r : Bool) (w : World) (h : spec_l21Good.f k a0_0 a0_1 a0_2 a0_3 a0_4 = some r) :
  Calls Try.prog 45 #[.agg #[.int .i64 a0_0, .int .i64 a0_1, .int .i64 a0_2, .int .i64 a0_3, .int .i64 a0_4]] w fun e w' => e = .returned (.bool r) ∧ Below w.heap.size w w' := by
 have hu25 := Try.underlying25
 have HB := Aside0.mk (Below.refl w.heap.size w)
 have H := h
 clear h
 unfold spec_l21Good.f at H
 have HC2 := Aside0.mk H
 clear H
 go_enter Try.func45, Try.ntmps45
 go_upto_region 1 with (first | ((with_reducible refine gD 1 ?_); refine bxE 1 25 #[.int .i64 a0_0, .int .i64 a0_1, .int .i64 a0_2, .int .i64 a0_3, .int .i64 a0_4] fun gb103 w3 hg hbox hb => ?_; have BK103 := Aside0.mk hbox; have GE103 := gB HB hg; replace HB := uB HB hb; clear hb hbox hg))
 (try simp only [Act.put, List.setIfInBounds_toArray, List.set_cons_zero, List.set_cons_succ])
 go_cut [24] (fun v24 wc => ∃ (kq : Nat) (x24_1 : Bool), v24 = .bool x24_1 ∧ Aside0 (spec_l21Good.j0 kq x24_1 a0_0 a0_1 a0_2 a0_3 a0_4 = some r) ∧ Aside0 (kq ≤ k) ∧ Aside0 (wc.heap[gb103]? = some (.cells #[.int .i64 a0_0, .int .i64 a0_1, .int .i64 a0_2, .int .i64 a0_3, .int .i64 a0_4] 25 (0, 0))) ∧ Aside0 (Below w.heap.size w wc))
 case first =>
  have H := HC2.out
  clear HC2
  replace H := bA H
  obtain ⟨t104, A4, H⟩ := H
  rcases Bool.eq_false_or_eq_true t104 with rfl | rfl
  ·replace H := iT rfl H
   replace H := bA H
   obtain ⟨t105, A6, H⟩ := H
   rcases Bool.eq_false_or_eq_true t105 with rfl | rfl
   ·replace H := iT rfl H
    replace H := bA H
    obtain ⟨t106, A8, H⟩ := H
    rcases Bool.eq_false_or_eq_true t106 with rfl | rfl
    ·replace H := iT rfl H
     replace H := bA H
     obtain ⟨t107, A10, H⟩ := H
     have H' := Aside0.mk H
     clear H
     have ⟨hcz11_0, hcz11_1, hcz11_2, hcz11_3, hcz11_4, hfz11_0⟩ := cz5 BK103
     go_wp2_with (first | ((with_reducible refine gC 66 ?_); refine lA (some 5) Try.func66 (spec_l1In.calls a0_0 0 5 true _ A4.out) ?_; rintro _ ⟨nd, rfl⟩) | (go_at_call 66; (with_reducible refine (spec_l1In.calls a0_1 1 12 true _ A6.out).mono ?_); rintro e w' ⟨rfl, ⟨nd, rfl⟩⟩) | (go_at_call 54; (with_reducible refine (spec_l21Time.calls a0_3 true _ A8.out).mono ?_); rintro e w' ⟨rfl, ⟨nd, rfl⟩⟩) | (go_at_call 54; (with_reducible refine (spec_l21Time.calls a0_4 t107 _ A10.out).mono ?_); rintro e w' ⟨rfl, ⟨nd, rfl⟩⟩))
     go_meet
     case rel => exact ⟨_, (!t107), rB, H', leB, (aK BK103), (aB HB)⟩
    ·replace H := iF (by decide) H
     have H' := Aside0.mk H
     clear H
     have ⟨hcz12_0, hcz12_1, hcz12_2, hcz12_3, hcz12_4, hfz12_0⟩ := cz5 BK103
     go_wp2_with (first | ((with_reducible refine gC 66 ?_); refine lA (some 5) Try.func66 (spec_l1In.calls a0_0 0 5 true _ A4.out) ?_; rintro _ ⟨nd, rfl⟩) | (go_at_call 66; (with_reducible refine (spec_l1In.calls a0_1 1 12 true _ A6.out).mono ?_); rintro e w' ⟨rfl, ⟨nd, rfl⟩⟩) | (go_at_call 54; (with_reducible refine (spec_l21Time.calls a0_3 false _ A8.out).mono ?_); rintro e w' ⟨rfl, ⟨nd, rfl⟩⟩))
     go_meet
     case rel => exact ⟨_, (true), rB, H', leB, (aK BK103), (aB HB)⟩
   ·replace H := iF (by decide) H
    have H' := Aside0.mk H
    clear H
    have ⟨hcz13_0, hcz13_1, hcz13_2, hcz13_3, hcz13_4, hfz13_0⟩ := cz5 BK103
    go_wp2_with (first | ((with_reducible refine gC 66 ?_); refine lA (some 5) Try.func66 (spec_l1In.calls a0_0 0 5 true _ A4.out) ?_; rintro _ ⟨nd, rfl⟩) | (go_at_call 66; (with_reducible refine (spec_l1In.calls a0_1 1 12 false _ A6.out).mono ?_); rintro e w' ⟨rfl, ⟨nd, rfl⟩⟩))
    go_meet
    case rel => exact ⟨_, (true), rB, H', leB, (aK BK103), (aB HB)⟩
  ·replace H := iF (by decide) H
   have H' := Aside0.mk H
   clear H
   have ⟨hcz14_0, hcz14_1, hcz14_2, hcz14_3, hcz14_4, hfz14_0⟩ := cz5 BK103
   go_wp2_with (first | ((with_reducible refine gC 66 ?_); refine lA (some 5) Try.func66 (spec_l1In.calls a0_0 0 5 false _ A4.out) ?_; rintro _ ⟨nd, rfl⟩))
   go_meet
   case rel => exact ⟨_, (true), rB, H', leB, (aK BK103), (aB HB)⟩
 case rest =>
  clear HC2
  obtain ⟨kq, x24_1, rfl, HA, HJ1, BK103, HB⟩ := hcut
  cases kq with
  | zero => exact absurd HA.out (by simp [spec_l21Good.j0])
  | succ kj1 =>
   have H := HA.out
   clear HA
   simp only [spec_l21Good.j0] at H
   rcases Bool.eq_false_or_eq_true x24_1 with rfl | rfl
   ·replace H := iT rfl H
    obtain rfl := Option.some.inj H
    go_wp2
    go_ret
    exact ⟨eB, (bW HB)⟩
   ·replace H := iF (by decide) H
    replace H := bA H
    obtain ⟨t108, A16, H⟩ := H
    rcases Bool.eq_false_or_eq_true t108 with rfl | rfl
    ·replace H := iT rfl H
     replace H := bA H
     obtain ⟨t109, A18, H⟩ := H
     rcases Bool.eq_false_or_eq_true t109 with rfl | rfl
     ·replace H := iT rfl H
      obtain rfl := Option.some.inj H
      have ⟨hcz20_0, hcz20_1, hcz20_2, hcz20_3, hcz20_4, hfz20_0⟩ := cz5 BK103
      go_wp2_with (first | ((with_reducible refine gC 48 ?_); refine lA (some 27) Try.func48 (spec_l21In.calls a0_0 true _ A16.out) ?_; rintro _ ⟨nd, rfl⟩) | ((with_reducible refine gC 66 ?_); refine lA (some 36) Try.func66 (spec_l1In.calls a0_2 1 a0_1 true _ A18.out) ?_; rintro _ ⟨nd, rfl⟩))
      go_ret
      exact ⟨eB, (bW HB)⟩
     ·replace H := iF (by decide) H
      obtain rfl := Option.some.inj H
      have ⟨hcz21_0, hcz21_1, hcz21_2, hcz21_3, hcz21_4, hfz21_0⟩ := cz5 BK103
      go_wp2_with (first | ((with_reducible refine gC 48 ?_); refine lA (some 27) Try.func48 (spec_l21In.calls a0_0 true _ A16.out) ?_; rintro _ ⟨nd, rfl⟩) | ((with_reducible refine gC 66 ?_); refine lA (some 36) Try.func66 (spec_l1In.calls a0_2 1 a0_1 false _ A18.out) ?_; rintro _ ⟨nd, rfl⟩))
      go_ret
      exact ⟨eB, (bW HB)⟩
    ·replace H := iF (by decide) H
     obtain rfl := Option.some.inj H
     have ⟨hcz22_0, hcz22_1, hcz22_2, hcz22_3, hcz22_4, hfz22_0⟩ := cz5 BK103
     go_wp2_with (first | ((with_reducible refine gC 48 ?_); refine lA (some 27) Try.func48 (spec_l21In.calls a0_0 false _ A16.out) ?_; rintro _ ⟨nd, rfl⟩))
     go_ret
     exact ⟨eB, (bW HB)⟩

/-! ### spec_IsTrip: function 11 -/
def spec_IsTrip.f (k : Nat) (a0_0 a0_1 a0_2 a0_3 a0_4 : Int) : Option (Bool) := (spec_l21Good.f k a0_0 a0_1 a0_2 a0_3 a0_4).bind fun t111 => (some t111)
theorem spec_IsTrip.mono : ∀ a0 a1 a2 a3 a4 k, LeO (spec_IsTrip.f k a0 a1 a2 a3 a4) (spec_IsTrip.f (k + 1) a0 a1 a2 a3 a4) := by
 intro a0 a1 a2 a3 a4 k
 unfold spec_IsTrip.f
 repeat' with_reducible first | apply spec_l21Good.mono | exact LeO.refl _ | exact LeO.none _ | refine LeO.ite ?_ ?_ | refine LeO.bind ?_ (fun _ => ?_)
set_option maxHeartbeats 8000000 in
set_option maxRecDepth 100000 in
theorem spec_IsTrip.calls (k : Nat) (a0_0 a0_1 a0_2 a0_3 a0_4 : Int) (r : Bool) (w : World) (h : spec_IsTrip.f k a0_0 a0_1 a0_2 a0_3 a0_4 = some r) :
  Calls Try.prog 11 #[.agg #[.int .i64 a0_0, .int .i64 a0_1, .int .i64 a0_2, .int .i64 a0_3, .int .i64 a0_4]] w fun e w' => e = .returned (.bool r) ∧ Below w.heap.size w w' := by
 have hu25 := Try.underlying25
 have HB := Aside0.mk (Below.refl w.heap.size w)
 have H := h
 clear h
 unfold spec_IsTrip.f at H
 replace H := bA H
 obtain ⟨t111, A2, H⟩ := H
 obtain rfl := Option.some.inj H
 go_enter Try.func11, Try.ntmps11
 go_wp2_with (first | ((with_reducible refine gD 1 ?_); refine bxE 1 25 #[.int .i64 a0_0, .int .i64 a0_1, .int .i64 a0_2, .int .i64 a0_3, .int .i64 a0_4] fun gb110 w3 hg hbox hb => ?_; have BK110 := Aside0.mk hbox; have GE110 := gB HB hg; replace HB := uB HB hb; clear hb hbox hg; have ⟨hcz4_0, hcz4_1, hcz4_2, hcz4_3, hcz4_4, hfz4_0⟩ := cz5 BK110) | ((with_reducible refine gC 45 ?_); refine lA (some 4) Try.func45 (spec_l21Good.calls k a0_0 a0_1 a0_2 a0_3 a0_4 t111 _ A2.out) ?_; intro w5 hb; replace BK110 := uK BK110 hb; replace HB := uB HB hb; (try clear hb)))
 go_ret
 exact ⟨eB, (bW HB)⟩

/-! ### impl_within: function 46 -/
def impl_within.f (a0 a1 a2 : Int) : Option (Bool) := if a0 ≥ a1 then (some (decide (a0 ≤ a2))) else (some false)
set_option maxHeartbeats 8000000 in
set_option maxRecDepth 100000 in
theorem impl_within.calls (a0 a1 a2 : Int) (r : Bool) (w : World) (h : impl_within.f a0 a1 a2 = some r) :
  Calls Try.prog 46 #[.int .i64 a0, .int .i64 a1, .int .i64 a2] w fun e w' => e = .returned (.bool r) ∧ Drawn0 w w' := by
 have H := h
 clear h
 unfold impl_within.f at H
 replace H := ifD H
 rcases H with ⟨H, -, c4b0⟩ | ⟨H, -, c4b0⟩
 ·obtain rfl := Option.some.inj H
  go_enter Try.func46, Try.ntmps46
  go_wp2
  go_ret
  exact ⟨rB, by repeat (first | exact Drawn0.refl _ | apply Drawn0.step)⟩
 ·obtain rfl := Option.some.inj H
  go_enter Try.func46, Try.ntmps46
  go_wp2
  go_ret
  exact ⟨rB, by repeat (first | exact Drawn0.refl _ | apply Drawn0.step)⟩

/-! ### impl_isTime: function 47 -/
def impl_isTime.f (a0 : Int) : Option (Bool) := (impl_within.f a0 0 999).bind fun t112 => (some t112)
set_option maxHeartbeats 8000000 in
set_option maxRecDepth 100000 in
theorem impl_isTime.calls (a0 : Int) (r : Bool) (w : World) (h : impl_isTime.f a0 = some r) :
  Calls Try.prog 47 #[.int .i64 a0] w fun e w' => e = .returned (.bool r) ∧ Drawn0 w w' := by
 have H := h
 clear h
 unfold impl_isTime.f at H
 replace H := bA H
 obtain ⟨t112, A2, H⟩ := H
 obtain rfl := Option.some.inj H
 go_enter Try.func47, Try.ntmps47
 go_wp2_with (first | ((with_reducible refine gC 46 ?_); refine lA (some 4) Try.func46 (impl_within.calls a0 0 999 t112 _ A2.out) ?_; rintro _ ⟨nd, rfl⟩))
 go_ret
 exact ⟨rB, by repeat (first | exact Drawn0.refl _ | apply Drawn0.step)⟩

end Go.Proofs.Ytmeaacbnjpgepaa.QFnTrips
