/- Contracts of Go functions that FnTripLists reaches: the call computes what the plain function says. No condition. -/
import Derived.Test.YtmeaacbnjpgepaaGreatDoorQFnTripListsx0
import Derived.Test.YtmeaacbnjpgepaaGreatDoorQFnTripListsx2
namespace Go.Proofs.YtmeaacbnjpgepaaGreatDoor.QFnTripLists
open Go.RowKit Go.Proofs.YtmeaacbnjpgepaaGreatDoorW.PrintWords Go.Proofs.YtmeaacbnjpgepaaGreatDoorW.PrintLast Go.Proofs.YtmeaacbnjpgepaaGreatDoorW.PrintMore
attribute [local go_sem] max2_int min2_int max_two min_two max_three min_three max_four min_four   -- for this text's walks alone
set_option linter.unusedVariables false
set_option linter.unusedSimpArgs false

/-! ### spec_l21Good: function 26 -/
def spec_l21Good.j0 : Nat → Bool → Int → Int → Int → Int → Int → Option (Bool)
 | 0, _, _, _, _, _, _ => none
 | k + 1, x24, x149000, x149001, x149002, x149003, x149004 => if x24 = true then (some false) else ((spec_l21In.f x149000).bind fun t153 => (if t153 = true then ((spec_l1In.f x149002 1 x149001).bind fun t154 => (if t154 = true then (some ((x149000 == 1) == (decide (x149004 ≤ x149003)))) else (some false))) else (some (x149002 == 0))))
def spec_l21Good.f (k : Nat) (a0_0 a0_1 a0_2 a0_3 a0_4 : Int) : Option (Bool) := (spec_l1In.f a0_0 0 5).bind fun t149 => (if t149 = true then ((spec_l1In.f a0_1 1 12).bind fun t150 => (if t150 = true then ((spec_l21Time.f a0_3).bind fun t151 => (if t151 = true then ((spec_l21Time.f a0_4).bind fun t152 => (spec_l21Good.j0 k (!t152) a0_0 a0_1 a0_2 a0_3 a0_4)) else (spec_l21Good.j0 k true a0_0 a0_1 a0_2 a0_3 a0_4))) else (spec_l21Good.j0 k true a0_0 a0_1 a0_2 a0_3 a0_4))) else (spec_l21Good.j0 k true a0_0 a0_1 a0_2 a0_3 a0_4))
theorem spec_l21Good.mono_l : ∀ k, (∀ y0 y1 y2 y3 y4 y5, LeO (spec_l21Good.j0 k y0 y1 y2 y3 y4 y5) (spec_l21Good.j0 (k + 1) y0 y1 y2 y3 y4 y5))
 | 0 => fun _ _ _ _ _ _ r h => by simp [spec_l21Good.j0] at h
 | k + 1 => by
  have ih0 := spec_l21Good.mono_l k
  ·intro y0 y1 y2 y3 y4 y5
   unfold spec_l21Good.j0
   repeat' with_reducible first | apply ih0 | exact LeO.refl _ | exact LeO.none _ | refine LeO.ite ?_ ?_ | refine LeO.bind ?_ (fun _ => ?_)
theorem spec_l21Good.mono : ∀ a0 a1 a2 a3 a4 k, LeO (spec_l21Good.f k a0 a1 a2 a3 a4) (spec_l21Good.f (k + 1) a0 a1 a2 a3 a4) := by
 intro a0 a1 a2 a3 a4 k
 have ih0 := spec_l21Good.mono_l k
 unfold spec_l21Good.f
 repeat' with_reducible first | apply ih0 | exact LeO.refl _ | exact LeO.none _ | refine LeO.ite ?_ ?_ | refine LeO.bind ?_ (fun _ => ?_)
set_option maxHeartbeats 8000000 in
set_option maxRecDepth 100000 in
theorem spec_l21Good.calls (k : Nat) (a0_0 a0_1 a0_2 a0_3 a0_4 : Int) (r : Bool) (w : World) (h : spec_l21Good.f k a0_0 a0_1 a0_2 a0_3 a0_4 = some r) :
  Calls Tryz.prog 26 #[.agg #[.int .i64 a0_0, .int .i64 a0_1, .int .i64 a0_2, .int .i64 a0_3, .int .i64 a0_4]] w fun e w' => e = .returned (.bool r) ∧ Below w.heap.size w w' := by
 have hu25 := Tryz.underlying25
 have HB := Aside0.mk (Below.refl w.heap.size w)
 have H := h
 clear h
 unfold spec_l21Good.f at H
 have HC2 := Aside0.mk H
 clear H
 go_enter Tryz.func26, Tryz.ntmps26
 go_upto_region 1 with (first | ((with_reducible refine gD 1 ?_); refine bxE 1 25 #[.int .i64 a0_0, .int .i64 a0_1, .int .i64 a0_2, .int .i64 a0_3, .int .i64 a0_4] fun gb148 w3 hg hbox hb => ?_; have BK148 := Aside0.mk hbox; have GE148 := gB HB hg; replace HB := uB HB hb; clear hb hbox hg))
 (try simp only [Act.put, List.setIfInBounds_toArray, List.set_cons_zero, List.set_cons_succ])
 go_cut [24] (fun v24 wc => ∃ (kq : Nat) (x24_1 : Bool), v24 = .bool x24_1 ∧ Aside0 (spec_l21Good.j0 kq x24_1 a0_0 a0_1 a0_2 a0_3 a0_4 = some r) ∧ Aside0 (kq ≤ k) ∧ Aside0 (wc.heap[gb148]? = some (.cells #[.int .i64 a0_0, .int .i64 a0_1, .int .i64 a0_2, .int .i64 a0_3, .int .i64 a0_4] 25 (0, 0))) ∧ Aside0 (Below w.heap.size w wc))
 case first =>
  have H := HC2.out
  clear HC2
  replace H := bA H
  obtain ⟨t149, A4, H⟩ := H
  rcases Bool.eq_false_or_eq_true t149 with rfl | rfl
  ·replace H := iT rfl H
   replace H := bA H
   obtain ⟨t150, A6, H⟩ := H
   rcases Bool.eq_false_or_eq_true t150 with rfl | rfl
   ·replace H := iT rfl H
    replace H := bA H
    obtain ⟨t151, A8, H⟩ := H
    rcases Bool.eq_false_or_eq_true t151 with rfl | rfl
    ·replace H := iT rfl H
     replace H := bA H
     obtain ⟨t152, A10, H⟩ := H
     have H' := Aside0.mk H
     clear H
     have ⟨hcz11_0, hcz11_1, hcz11_2, hcz11_3, hcz11_4, hfz11_0⟩ := cz5 BK148
     go_wp2_with (first | ((with_reducible refine gC 45 ?_); refine lA (some 5) Tryz.func45 (spec_l1In.calls a0_0 0 5 true _ A4.out) ?_; rintro _ ⟨nd, rfl⟩) | (go_at_call 45; (with_reducible refine (spec_l1In.calls a0_1 1 12 true _ A6.out).mono ?_); rintro e w' ⟨rfl, ⟨nd, rfl⟩⟩) | (go_at_call 38; (with_reducible refine (spec_l21Time.calls a0_3 true _ A8.out).mono ?_); rintro e w' ⟨rfl, ⟨nd, rfl⟩⟩) | (go_at_call 38; (with_reducible refine (spec_l21Time.calls a0_4 t152 _ A10.out).mono ?_); rintro e w' ⟨rfl, ⟨nd, rfl⟩⟩))
     go_meet
     case rel => exact ⟨_, (!t152), rB, H', leB, (aK BK148), (aB HB)⟩
    ·replace H := iF (by decide) H
     have H' := Aside0.mk H
     clear H
     have ⟨hcz12_0, hcz12_1, hcz12_2, hcz12_3, hcz12_4, hfz12_0⟩ := cz5 BK148
     go_wp2_with (first | ((with_reducible refine gC 45 ?_); refine lA (some 5) Tryz.func45 (spec_l1In.calls a0_0 0 5 true _ A4.out) ?_; rintro _ ⟨nd, rfl⟩) | (go_at_call 45; (with_reducible refine (spec_l1In.calls a0_1 1 12 true _ A6.out).mono ?_); rintro e w' ⟨rfl, ⟨nd, rfl⟩⟩) | (go_at_call 38; (with_reducible refine (spec_l21Time.calls a0_3 false _ A8.out).mono ?_); rintro e w' ⟨rfl, ⟨nd, rfl⟩⟩))
     go_meet
     case rel => exact ⟨_, (true), rB, H', leB, (aK BK148), (aB HB)⟩
   ·replace H := iF (by decide) H
    have H' := Aside0.mk H
    clear H
    have ⟨hcz13_0, hcz13_1, hcz13_2, hcz13_3, hcz13_4, hfz13_0⟩ := cz5 BK148
    go_wp2_with (first | ((with_reducible refine gC 45 ?_); refine lA (some 5) Tryz.func45 (spec_l1In.calls a0_0 0 5 true _ A4.out) ?_; rintro _ ⟨nd, rfl⟩) | (go_at_call 45; (with_reducible refine (spec_l1In.calls a0_1 1 12 false _ A6.out).mono ?_); rintro e w' ⟨rfl, ⟨nd, rfl⟩⟩))
    go_meet
    case rel => exact ⟨_, (true), rB, H', leB, (aK BK148), (aB HB)⟩
  ·replace H := iF (by decide) H
   have H' := Aside0.mk H
   clear H
   have ⟨hcz14_0, hcz14_1, hcz14_2, hcz14_3, hcz14_4, hfz14_0⟩ := cz5 BK148
   go_wp2_with (first | ((with_reducible refine gC 45 ?_); refine lA (some 5) Tryz.func45 (spec_l1In.calls a0_0 0 5 false _ A4.out) ?_; rintro _ ⟨nd, rfl⟩))
   go_meet
   case rel => exact ⟨_, (true), rB, H', leB, (aK BK148), (aB HB)⟩
 case rest =>
  clear HC2
  obtain ⟨kq, x24_1, rfl, HA, HJ1, BK148, HB⟩ := hcut
  cases kq with
  | zero => exact absurd HA.out (by simp [spec_l21Good.j0])
  | succ kj1 =>
   have H := HA.out
   clear HA
   simp only [spec_l21Good.j0] at H
   rcases Bool.eq_false_or_eq_true x24_1 with rfl | rfl
   ·replace H := iT rfl H
    obtain rfl := Option.some.inj H
    go_wp2
    go_ret
    exact ⟨eB, (bW HB)⟩
   ·replace H := iF (by decide) H
    replace H := bA H
    obtain ⟨t153, A16, H⟩ := H
    rcases Bool.eq_false_or_eq_true t153 with rfl | rfl
    ·replace H := iT rfl H
     replace H := bA H
     obtain ⟨t154, A18, H⟩ := H
     rcases Bool.eq_false_or_eq_true t154 with rfl | rfl
     ·replace H := iT rfl H
      obtain rfl := Option.some.inj H
      have ⟨hcz20_0, hcz20_1, hcz20_2, hcz20_3, hcz20_4, hfz20_0⟩ := cz5 BK148
      go_wp2_with (first | ((with_reducible refine gC 46 ?_); refine lA (some 27) Tryz.func46 (spec_l21In.calls a0_0 true _ A16.out) ?_; rintro _ ⟨nd, rfl⟩) | ((with_reducible refine gC 45 ?_); refine lA (some 36) Tryz.func45 (spec_l1In.calls a0_2 1 a0_1 true _ A18.out) ?_; rintro _ ⟨nd, rfl⟩))
      go_ret
      exact ⟨eB, (bW HB)⟩
     ·replace H := iF (by decide) H
      obtain rfl := Option.some.inj H
      have ⟨hcz21_0, hcz21_1, hcz21_2, hcz21_3, hcz21_4, hfz21_0⟩ := cz5 BK148
      go_wp2_with (first | ((with_reducible refine gC 46 ?_); refine lA (some 27) Tryz.func46 (spec_l21In.calls a0_0 true _ A16.out) ?_; rintro _ ⟨nd, rfl⟩) | ((with_reducible refine gC 45 ?_); refine lA (some 36) Tryz.func45 (spec_l1In.calls a0_2 1 a0_1 false _ A18.out) ?_; rintro _ ⟨nd, rfl⟩))
      go_ret
      exact ⟨eB, (bW HB)⟩
    ·replace H := iF (by decide) H
     obtain rfl := Option.some.inj H
     have ⟨hcz22_0, hcz22_1, hcz22_2, hcz22_3, hcz22_4, hfz22_0⟩ := cz5 BK148
     go_wp2_with (first | ((with_reducible refine gC 46 ?_); refine lA (some 27) Tryz.func46 (spec_l21In.calls a0_0 false _ A16.out) ?_; rintro _ ⟨nd, rfl⟩))
     go_ret
     exact ⟨eB, (bW HB)⟩

end Go.Proofs.YtmeaacbnjpgepaaGreatDoor.QFnTripLists
