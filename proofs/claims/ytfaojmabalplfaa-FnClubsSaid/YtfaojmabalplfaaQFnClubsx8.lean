/- Contracts of Go functions that FnClubs reaches: the call computes what the plain function says. No condition. -/
import Derived.Test.YtfaojmabalplfaaQFnClubsx0
import Derived.Test.YtfaojmabalplfaaQFnClubsx3
import Derived.Test.YtfaojmabalplfaaQFnClubsx6
import Derived.Test.YtfaojmabalplfaaQFnClubsx7
namespace Go.Proofs.Ytfaojmabalplfaa.QFnClubs
open Go.RowKit Go.Proofs.YtfaojmabalplfaaW.PrintWords Go.Proofs.YtfaojmabalplfaaW.PrintLast Go.Proofs.YtfaojmabalplfaaW.PrintMore
attribute [local go_sem] max2_int min2_int max_two min_two max_three min_three max_four min_four   -- for this text's walks alone
set_option linter.unusedVariables false
set_option linter.unusedSimpArgs false

/-! ### spec_DoAgree: function 73 -/
mutual
def spec_DoAgree.j0 : Nat → Int → Int → Bool → Int → Int → Int → Int → Int → Int → Int → Int → Int → Int → Option (Bool × Bool)
 | 0, _, _, _, _, _, _, _, _, _, _, _, _, _ => none
 | k + 1, x2, x3, x28, x232000, x232001, x232002, x232003, x232004, x233000, x233001, x233002, x233003, x233004 => if x28 = true then (some (false, false)) else (if x232000 = x233001 then (spec_DoAgree.j1 k x2 x3 (x232001 == x233000) x232000 x232001 x232002 x232003 x232004 x233000 x233001 x233002 x233003 x233004) else (spec_DoAgree.j1 k x2 x3 false x232000 x232001 x232002 x232003 x232004 x233000 x233001 x233002 x233003 x233004))
def spec_DoAgree.j1 : Nat → Int → Int → Bool → Int → Int → Int → Int → Int → Int → Int → Int → Int → Int → Option (Bool × Bool)
 | 0, _, _, _, _, _, _, _, _, _, _, _, _, _ => none
 | k + 1, x2, x3, x40, x232000, x232001, x232002, x232003, x232004, x233000, x233001, x233002, x233003, x233004 => if x40 = true then ((spec_l4Reverse.f x233000 x233001 x233002 x233003 x233004).bind fun bt235 => (spec_DoAgree.j2 k x2 x3 x232000 x232001 x232002 x232003 x232004 bt235.1 bt235.2.1 bt235.2.2.1 bt235.2.2.2.1 bt235.2.2.2.2)) else (spec_DoAgree.j2 k x2 x3 x232000 x232001 x232002 x232003 x232004 x233000 x233001 x233002 x233003 x233004)
def spec_DoAgree.j2 : Nat → Int → Int → Int → Int → Int → Int → Int → Int → Int → Int → Int → Int → Option (Bool × Bool)
 | 0, _, _, _, _, _, _, _, _, _, _, _, _ => none
 | k + 1, x2, x3, x232000, x232001, x232002, x232003, x232004, x233000, x233001, x233002, x233003, x233004 => if x232000 = x233000 then (spec_DoAgree.j3 k x2 x3 (x232001 != x233001) x232000 x232001 x232002 x232003 x232004 x233000 x233001 x233002 x233003 x233004) else (spec_DoAgree.j3 k x2 x3 true x232000 x232001 x232002 x232003 x232004 x233000 x233001 x233002 x233003 x233004)
def spec_DoAgree.j3 : Nat → Int → Int → Bool → Int → Int → Int → Int → Int → Int → Int → Int → Int → Int → Option (Bool × Bool)
 | 0, _, _, _, _, _, _, _, _, _, _, _, _, _ => none
 | k + 1, x2, x3, x54, x232000, x232001, x232002, x232003, x232004, x233000, x233001, x233002, x233003, x233004 => if x54 = true then (some (false, false)) else ((spec_TurnBetween.f x232003 x233003).bind fun bt240 => ((spec_l1Most.f (wrap64 (x232004 - x233004)) (wrap64 (x233004 - x232004))).bind fun t242 => (if bt240.1 ≤ x2 then (if t242 ≤ x2 then ((spec_l1Most.f (wrap64 (x232002 - x233002)) (wrap64 (x233002 - x232002))).bind fun t243 => (some (decide (t243 ≤ x3), true))) else (some (false, true))) else (some (false, true)))))
end
def spec_DoAgree.f (k : Nat) (a0_0 a0_1 a0_2 a0_3 a0_4 a1_0 a1_1 a1_2 a1_3 a1_4 a2 a3 : Int) : Option (Bool × Bool) := (spec_l4Leg.f a0_0 a0_1 a0_2 a0_3 a0_4).bind fun t233 => (if t233 = true then ((spec_l4Leg.f a1_0 a1_1 a1_2 a1_3 a1_4).bind fun t234 => (if t234 = true then (if a2 < 0 then (spec_DoAgree.j0 k a2 a3 true a0_0 a0_1 a0_2 a0_3 a0_4 a1_0 a1_1 a1_2 a1_3 a1_4) else (spec_DoAgree.j0 k a2 a3 (decide (a3 < 0)) a0_0 a0_1 a0_2 a0_3 a0_4 a1_0 a1_1 a1_2 a1_3 a1_4)) else (spec_DoAgree.j0 k a2 a3 true a0_0 a0_1 a0_2 a0_3 a0_4 a1_0 a1_1 a1_2 a1_3 a1_4))) else (spec_DoAgree.j0 k a2 a3 true a0_0 a0_1 a0_2 a0_3 a0_4 a1_0 a1_1 a1_2 a1_3 a1_4))
theorem spec_DoAgree.mono_l : ∀ k, (∀ y0 y1 y2 y3 y4 y5 y6 y7 y8 y9 y10 y11 y12, LeO (spec_DoAgree.j0 k y0 y1 y2 y3 y4 y5 y6 y7 y8 y9 y10 y11 y12) (spec_DoAgree.j0 (k + 1) y0 y1 y2 y3 y4 y5 y6 y7 y8 y9 y10 y11 y12)) ∧ (∀ y0 y1 y2 y3 y4 y5 y6 y7 y8 y9 y10 y11 y12, LeO (spec_DoAgree.j1 k y0 y1 y2 y3 y4 y5 y6 y7 y8 y9 y10 y11 y12) (spec_DoAgree.j1 (k + 1) y0 y1 y2 y3 y4 y5 y6 y7 y8 y9 y10 y11 y12)) ∧ (∀ y0 y1 y2 y3 y4 y5 y6 y7 y8 y9 y10 y11, LeO (spec_DoAgree.j2 k y0 y1 y2 y3 y4 y5 y6 y7 y8 y9 y10 y11) (spec_DoAgree.j2 (k + 1) y0 y1 y2 y3 y4 y5 y6 y7 y8 y9 y10 y11)) ∧ (∀ y0 y1 y2 y3 y4 y5 y6 y7 y8 y9 y10 y11 y12, LeO (spec_DoAgree.j3 k y0 y1 y2 y3 y4 y5 y6 y7 y8 y9 y10 y11 y12) (spec_DoAgree.j3 (k + 1) y0 y1 y2 y3 y4 y5 y6 y7 y8 y9 y10 y11 y12))
 | 0 => ⟨fun _ _ _ _ _ _ _ _ _ _ _ _ _ r h => by simp [spec_DoAgree.j0] at h, fun _ _ _ _ _ _ _ _ _ _ _ _ _ r h => by simp [spec_DoAgree.j1] at h, fun _ _ _ _ _ _ _ _ _ _ _ _ r h => by simp [spec_DoAgree.j2] at h, fun _ _ _ _ _ _ _ _ _ _ _ _ _ r h => by simp [spec_DoAgree.j3] at h⟩
 | k + 1 => by
  obtain ⟨ih0, ih1, ih2, ih3⟩ := spec_DoAgree.mono_l k
  refine ⟨?_, ?_, ?_, ?_⟩
  ·intro y0 y1 y2 y3 y4 y5 y6 y7 y8 y9 y10 y11 y12
   unfold spec_DoAgree.j0
   repeat' with_reducible first | apply ih0 | apply ih1 | apply ih2 | apply ih3 | exact LeO.refl _ | exact LeO.none _ | refine LeO.ite ?_ ?_ | refine LeO.bind ?_ (fun _ => ?_)
  ·intro y0 y1 y2 y3 y4 y5 y6 y7 y8 y9 y10 y11 y12
   unfold spec_DoAgree.j1
   repeat' with_reducible first | apply ih0 | apply ih1 | apply ih2 | apply ih3 | exact LeO.refl _ | exact LeO.none _ | refine LeO.ite ?_ ?_ | refine LeO.bind ?_ (fun _ => ?_)
  ·intro y0 y1 y2 y3 y4 y5 y6 y7 y8 y9 y10 y11
   unfold spec_DoAgree.j2
   repeat' with_reducible first | apply ih0 | apply ih1 | apply ih2 | apply ih3 | exact LeO.refl _ | exact LeO.none _ | refine LeO.ite ?_ ?_ | refine LeO.bind ?_ (fun _ => ?_)
  ·intro y0 y1 y2 y3 y4 y5 y6 y7 y8 y9 y10 y11 y12
   unfold spec_DoAgree.j3
   repeat' with_reducible first | apply ih0 | apply ih1 | apply ih2 | apply ih3 | exact LeO.refl _ | exact LeO.none _ | refine LeO.ite ?_ ?_ | refine LeO.bind ?_ (fun _ => ?_)
theorem spec_DoAgree.mono : ∀ a0 a1 a2 a3 a4 a5 a6 a7 a8 a9 a10 a11 k, LeO (spec_DoAgree.f k a0 a1 a2 a3 a4 a5 a6 a7 a8 a9 a10 a11) (spec_DoAgree.f (k + 1) a0 a1 a2 a3 a4 a5 a6 a7 a8 a9 a10 a11) := by
 intro a0 a1 a2 a3 a4 a5 a6 a7 a8 a9 a10 a11 k
 obtain ⟨ih0, ih1, ih2, ih3⟩ := spec_DoAgree.mono_l k
 unfold spec_DoAgree.f
 repeat' with_reducible first | apply ih0 | apply ih1 | apply ih2 | apply ih3 | exact LeO.refl _ | exact LeO.none _ | refine LeO.ite ?_ ?_ | refine LeO.bind ?_ (fun _ => ?_)
set_option maxHeartbeats 8000000 in
set_option maxRecDepth 100000 in
theorem spec_DoAgree.calls (k : Nat) (a0_0 a0_1 a0_2 a0_3 a0_4 a1_0 a1_1 a1_2 a1_3 a1_4 a2 a3 : Int) (r1 r2 : Bool) (w : World) (h : spec_DoAgree.f k a0_0 a0_1 a0_2 a0_3 a0_4 a1_0 a1_1 a1_2 a1_3 a1_4 a2 a3 = some (r1, r2)) :
  Calls Try.prog 73 #[.agg #[.int .i64 a0_0, .int .i64 a0_1, .int .i64 a0_2, .int .i64 a0_3, .int .i64 a0_4], .agg #[.int .i64 a1_0, .int .i64 a1_1, .int .i64 a1_2, .int .i64 a1_3, .int .i64 a1_4], .int .i64 a2, .int .i64 a3] w fun e w' => e = .returned (.tuple #[.bool r1, .bool r2]) ∧ Below w.heap.size w w' := by
 have hu70 := Try.underlying70
 have HB := Aside0.mk (Below.refl w.heap.size w)
 have H := h
 clear h
 unfold spec_DoAgree.f at H
 have HC5 := Aside0.mk H
 clear H
 go_enter Try.func73, Try.ntmps73
 go_upto_region 1 with (first | ((with_reducible refine gD 4 ?_); refine bxE 4 70 #[.int .i64 a0_0, .int .i64 a0_1, .int .i64 a0_2, .int .i64 a0_3, .int .i64 a0_4] fun gb231 w6 hg hbox hb => ?_; have BK231 := Aside0.mk hbox; have GE231 := gB HB hg; replace HB := uB HB hb; clear hb hbox hg) | ((with_reducible refine gD 5 ?_); refine bxE 5 70 #[.int .i64 a1_0, .int .i64 a1_1, .int .i64 a1_2, .int .i64 a1_3, .int .i64 a1_4] fun gb232 w7 hg hbox hb => ?_; have BK232 := Aside0.mk hbox; have GE232 := gB HB hg; have ⟨NB231_232, NB232_231⟩ := nB BK231 hg; replace BK231 := uK BK231 hb; replace HB := uB HB hb; clear hb hbox hg))
 (try simp only [Act.put, List.setIfInBounds_toArray, List.set_cons_zero, List.set_cons_succ])
 go_cut [28] (fun v28 wc => ∃ (kq : Nat) (x28_4 : Bool), v28 = .bool x28_4 ∧ Aside0 (spec_DoAgree.j0 kq a2 a3 x28_4 a0_0 a0_1 a0_2 a0_3 a0_4 a1_0 a1_1 a1_2 a1_3 a1_4 = some (r1, r2)) ∧ Aside0 (kq ≤ k) ∧ Aside0 (wc.heap[gb231]? = some (.cells #[.int .i64 a0_0, .int .i64 a0_1, .int .i64 a0_2, .int .i64 a0_3, .int .i64 a0_4] 70 (0, 0))) ∧ Aside0 (wc.heap[gb232]? = some (.cells #[.int .i64 a1_0, .int .i64 a1_1, .int .i64 a1_2, .int .i64 a1_3, .int .i64 a1_4] 70 (0, 0))) ∧ Aside0 (Below w.heap.size w wc))
 case first =>
  have H := HC5.out
  clear HC5
  replace H := bA H
  obtain ⟨t233, A8, H⟩ := H
  rcases Bool.eq_false_or_eq_true t233 with rfl | rfl
  ·replace H := iT rfl H
   replace H := bA H
   obtain ⟨t234, A10, H⟩ := H
   rcases Bool.eq_false_or_eq_true t234 with rfl | rfl
   ·replace H := iT rfl H
    replace H := ifD H
    rcases H with ⟨H, -, c12b0⟩ | ⟨H, -, c12b0⟩
    ·(first | rw [c12b0] | (simp only [i64_w, i32_w]; rw [c12b0]) | skip)
     have H' := Aside0.mk H
     clear H
     have hnb13 := NB231_232.out
     have hnc13 := NB232_231.out
     have ⟨hcz14_0, hcz14_1, hcz14_2, hcz14_3, hcz14_4, hfz14_0⟩ := cz5 BK231
     go_wp2_with (first | ((with_reducible refine gC 92 ?_); refine lA (some 14) Try.func92 (spec_l4Leg.calls a0_0 a0_1 a0_2 a0_3 a0_4 true _ A8.out) ?_; intro w15 hb; replace BK231 := uK BK231 hb; replace BK232 := uK BK232 hb; replace HB := uB HB hb; (try clear hb); have ⟨hcz16_0, hcz16_1, hcz16_2, hcz16_3, hcz16_4, hfz16_0⟩ := cz5 BK232) | (go_at_call 92; (with_reducible refine (spec_l4Leg.calls a1_0 a1_1 a1_2 a1_3 a1_4 true _ A10.out).mono ?_); rintro e w17 ⟨rfl, hb⟩; replace BK231 := uK BK231 hb; replace BK232 := uK BK232 hb; replace HB := uB HB hb; (try clear hb)))
     go_meet
     case rel => exact ⟨_, (true), rB, H', leB, (aK BK231), (aK BK232), (aB HB)⟩
    ·(first | rw [c12b0] | (simp only [i64_w, i32_w]; rw [c12b0]) | skip)
     have H' := Aside0.mk H
     clear H
     have hnb18 := NB231_232.out
     have hnc18 := NB232_231.out
     have ⟨hcz19_0, hcz19_1, hcz19_2, hcz19_3, hcz19_4, hfz19_0⟩ := cz5 BK231
     go_wp2_with (first | ((with_reducible refine gC 92 ?_); refine lA (some 14) Try.func92 (spec_l4Leg.calls a0_0 a0_1 a0_2 a0_3 a0_4 true _ A8.out) ?_; intro w20 hb; replace BK231 := uK BK231 hb; replace BK232 := uK BK232 hb; replace HB := uB HB hb; (try clear hb); have ⟨hcz21_0, hcz21_1, hcz21_2, hcz21_3, hcz21_4, hfz21_0⟩ := cz5 BK232) | (go_at_call 92; (with_reducible refine (spec_l4Leg.calls a1_0 a1_1 a1_2 a1_3 a1_4 true _ A10.out).mono ?_); rintro e w22 ⟨rfl, hb⟩; replace BK231 := uK BK231 hb; replace BK232 := uK BK232 hb; replace HB := uB HB hb; (try clear hb)))
     go_meet
     case rel => exact ⟨_, (decide (a3 < 0)), rB, H', leB, (aK BK231), (aK BK232), (aB HB)⟩
   ·replace H := iF (by decide) H
    have H' := Aside0.mk H
    clear H
    have hnb23 := NB231_232.out
    have hnc23 := NB232_231.out
    have ⟨hcz24_0, hcz24_1, hcz24_2, hcz24_3, hcz24_4, hfz24_0⟩ := cz5 BK231
    go_wp2_with (first | ((with_reducible refine gC 92 ?_); refine lA (some 14) Try.func92 (spec_l4Leg.calls a0_0 a0_1 a0_2 a0_3 a0_4 true _ A8.out) ?_; intro w25 hb; replace BK231 := uK BK231 hb; replace BK232 := uK BK232 hb; replace HB := uB HB hb; (try clear hb); have ⟨hcz26_0, hcz26_1, hcz26_2, hcz26_3, hcz26_4, hfz26_0⟩ := cz5 BK232) | (go_at_call 92; (with_reducible refine (spec_l4Leg.calls a1_0 a1_1 a1_2 a1_3 a1_4 false _ A10.out).mono ?_); rintro e w27 ⟨rfl, hb⟩; replace BK231 := uK BK231 hb; replace BK232 := uK BK232 hb; replace HB := uB HB hb; (try clear hb)))
    go_meet
    case rel => exact ⟨_, (true), rB, H', leB, (aK BK231), (aK BK232), (aB HB)⟩
  ·replace H := iF (by decide) H
   have H' := Aside0.mk H
   clear H
   have hnb28 := NB231_232.out
   have hnc28 := NB232_231.out
   have ⟨hcz29_0, hcz29_1, hcz29_2, hcz29_3, hcz29_4, hfz29_0⟩ := cz5 BK231
   go_wp2_with (first | ((with_reducible refine gC 92 ?_); refine lA (some 14) Try.func92 (spec_l4Leg.calls a0_0 a0_1 a0_2 a0_3 a0_4 false _ A8.out) ?_; intro w30 hb; replace BK231 := uK BK231 hb; replace BK232 := uK BK232 hb; replace HB := uB HB hb; (try clear hb)))
   go_meet
   case rel => exact ⟨_, (true), rB, H', leB, (aK BK231), (aK BK232), (aB HB)⟩
 case rest =>
  clear HC5
  obtain ⟨kq, x28_4, rfl, HA, HJ4, BK231, BK232, HB⟩ := hcut
  cases kq with
  | zero => exact absurd HA.out (by simp [spec_DoAgree.j0])
  | succ kj4 =>
   have H := HA.out
   clear HA
   simp only [spec_DoAgree.j0] at H
   rcases Bool.eq_false_or_eq_true x28_4 with rfl | rfl
   ·replace H := iT rfl H
    simp only [Option.some.injEq, Prod.mk.injEq] at H
    obtain ⟨rfl, rfl⟩ := H
    go_wp2
    go_ret2
    exact ⟨eB, (bW HB)⟩
   ·replace H := iF (by decide) H
    have HC32 := Aside0.mk H
    clear H
    go_upto_region 3 with (fail)
    go_cut [40] (fun v40 wc => ∃ (kq : Nat) (x40_31 : Bool), v40 = .bool x40_31 ∧ Aside0 (spec_DoAgree.j1 kq a2 a3 x40_31 a0_0 a0_1 a0_2 a0_3 a0_4 a1_0 a1_1 a1_2 a1_3 a1_4 = some (r1, r2)) ∧ Aside0 (kq ≤ kj4) ∧ Aside0 (wc.heap[gb231]? = some (.cells #[.int .i64 a0_0, .int .i64 a0_1, .int .i64 a0_2, .int .i64 a0_3, .int .i64 a0_4] 70 (0, 0))) ∧ Aside0 (wc.heap[gb232]? = some (.cells #[.int .i64 a1_0, .int .i64 a1_1, .int .i64 a1_2, .int .i64 a1_3, .int .i64 a1_4] 70 (0, 0))) ∧ Aside0 (Below w.heap.size w wc))
    case first =>
     have H := HC32.out
     clear HC32
     replace H := ifI H
     rcases H with ⟨H, -, c33b0, c33b1⟩ | ⟨H, c33, c33b0, c33b1⟩
     ·(first | rw [c33b0] | (simp only [i64_w, i32_w]; rw [c33b0]) | skip)
      have H' := Aside0.mk H
      clear H
      have hnb34 := NB231_232.out
      have hnc34 := NB232_231.out
      have ⟨hcz35_0, hcz35_1, hcz35_2, hcz35_3, hcz35_4, hfz35_0⟩ := cz5 BK231
      have ⟨hcz36_0, hcz36_1, hcz36_2, hcz36_3, hcz36_4, hfz36_0⟩ := cz5 BK232
      go_wp2
      go_meet
      case rel => exact ⟨_, ((a0_1 == a1_0)), rB, H', ⟨by have := HJ4.out; first | omega | exact Nat.le_refl _⟩, (aK BK231), (aK BK232), (aB HB)⟩
     ·(first | rw [c33b0] | (simp only [i64_w, i32_w]; rw [c33b0]) | skip)
      have H' := Aside0.mk H
      clear H
      have hnb37 := NB231_232.out
      have hnc37 := NB232_231.out
      have ⟨hcz38_0, hcz38_1, hcz38_2, hcz38_3, hcz38_4, hfz38_0⟩ := cz5 BK231
      have ⟨hcz39_0, hcz39_1, hcz39_2, hcz39_3, hcz39_4, hfz39_0⟩ := cz5 BK232
      go_wp2
      go_meet
      case rel => exact ⟨_, (false), rB, H', ⟨by have := HJ4.out; first | omega | exact Nat.le_refl _⟩, (aK BK231), (aK BK232), (aB HB)⟩
    case rest =>
     clear HC32
     obtain ⟨kq, x40_31, rfl, HA, HJ31, BK231, BK232, HB⟩ := hcut
     cases kq with
     | zero => exact absurd HA.out (by simp [spec_DoAgree.j1])
     | succ kj31 =>
      have H := HA.out
      clear HA
      simp only [spec_DoAgree.j1] at H
      have HC40 := Aside0.mk H
      clear H
      go_upto_if 40 with (fail)
      go_cut [] (fun wc => ∃ (kq : Nat) (x233000_39 x233001_39 x233002_39 x233003_39 x233004_39 : Int), Aside0 (spec_DoAgree.j2 kq a2 a3 a0_0 a0_1 a0_2 a0_3 a0_4 x233000_39 x233001_39 x233002_39 x233003_39 x233004_39 = some (r1, r2)) ∧ Aside0 (kq ≤ kj31) ∧ Aside0 (wc.heap[gb231]? = some (.cells #[.int .i64 a0_0, .int .i64 a0_1, .int .i64 a0_2, .int .i64 a0_3, .int .i64 a0_4] 70 (0, 0))) ∧ Aside0 (wc.heap[gb232]? = some (.cells #[.int .i64 x233000_39, .int .i64 x233001_39, .int .i64 x233002_39, .int .i64 x233003_39, .int .i64 x233004_39] 70 (0, 0))) ∧ Aside0 (Below w.heap.size w wc))
      case first =>
       have H := HC40.out
       clear HC40
       rcases Bool.eq_false_or_eq_true x40_31 with rfl | rfl
       ·replace H := iT rfl H
        replace H := Option.bind_eq_some_iff.mp H
        obtain ⟨⟨t235, t236, t237, t238, t239⟩, A420, H⟩ := H
        replace H : (spec_DoAgree.j2 kj31 a2 a3 a0_0 a0_1 a0_2 a0_3 a0_4 t235 t236 t237 t238 t239) = some (r1, r2) := H
        have A42 := Aside0.mk A420
        clear A420
        have H' := Aside0.mk H
        clear H
        have hnb43 := NB232_231.out
        have hnc43 := NB231_232.out
        have ⟨hcz44_0, hcz44_1, hcz44_2, hcz44_3, hcz44_4, hfz44_0⟩ := cz5 BK232
        go_wp2_with (first | ((with_reducible refine gC 95 ?_); refine lA (some 42) Try.func95 (spec_l4Reverse.calls a1_0 a1_1 a1_2 a1_3 a1_4 t235 t236 t237 t238 t239 _ A42.out) ?_; intro w45 hb; replace BK231 := uK BK231 hb; replace BK232 := uK BK232 hb; replace HB := uB HB hb; (try clear hb); have ⟨hcz46_0, hcz46_1, hcz46_2, hcz46_3, hcz46_4, hfz46_0⟩ := cz5 BK232))
        go_meet
        case rel => exact ⟨_, (t235), (t236), (t237), (t238), (t239), H', ⟨by have := HJ4.out; have := HJ31.out; first | omega | exact Nat.le_refl _⟩, ⟨by exact pW BK231⟩, ⟨by exact pW BK232⟩, (aB HB)⟩
       ·replace H := iF (by decide) H
        have H' := Aside0.mk H
        clear H
        go_wp2
        go_meet
        case rel => exact ⟨_, (a1_0), (a1_1), (a1_2), (a1_3), (a1_4), H', ⟨by have := HJ4.out; have := HJ31.out; first | omega | exact Nat.le_refl _⟩, (aK BK231), (aK BK232), (aB HB)⟩
      case rest =>
       clear HC40
       obtain ⟨kq, x233000_39, x233001_39, x233002_39, x233003_39, x233004_39, HA, HJ39, BK231, BK232, HB⟩ := hcut
       cases kq with
       | zero => exact absurd HA.out (by simp [spec_DoAgree.j2])
       | succ kj39 =>
        have H := HA.out
        clear HA
        simp only [spec_DoAgree.j2] at H
        have HC47 := Aside0.mk H
        clear H
        go_upto_region 5 with (fail)
        go_cut [54] (fun v54 wc => ∃ (kq : Nat) (x54_46 : Bool), v54 = .bool x54_46 ∧ Aside0 (spec_DoAgree.j3 kq a2 a3 x54_46 a0_0 a0_1 a0_2 a0_3 a0_4 x233000_39 x233001_39 x233002_39 x233003_39 x233004_39 = some (r1, r2)) ∧ Aside0 (kq ≤ kj39) ∧ Aside0 (wc.heap[gb231]? = some (.cells #[.int .i64 a0_0, .int .i64 a0_1, .int .i64 a0_2, .int .i64 a0_3, .int .i64 a0_4] 70 (0, 0))) ∧ Aside0 (wc.heap[gb232]? = some (.cells #[.int .i64 x233000_39, .int .i64 x233001_39, .int .i64 x233002_39, .int .i64 x233003_39, .int .i64 x233004_39] 70 (0, 0))) ∧ Aside0 (Below w.heap.size w wc))
        case first =>
         have H := HC47.out
         clear HC47
         replace H := ifI H
         rcases H with ⟨H, -, c48b0, c48b1⟩ | ⟨H, c48, c48b0, c48b1⟩
         ·(first | rw [c48b0] | (simp only [i64_w, i32_w]; rw [c48b0]) | skip)
          have H' := Aside0.mk H
          clear H
          have hnb49 := NB231_232.out
          have hnc49 := NB232_231.out
          have ⟨hcz50_0, hcz50_1, hcz50_2, hcz50_3, hcz50_4, hfz50_0⟩ := cz5 BK231
          have ⟨hcz51_0, hcz51_1, hcz51_2, hcz51_3, hcz51_4, hfz51_0⟩ := cz5 BK232
          go_wp2
          go_meet
          case rel => exact ⟨_, ((a0_1 != x233001_39)), rB, H', ⟨by have := HJ4.out; have := HJ31.out; have := HJ39.out; first | omega | exact Nat.le_refl _⟩, (aK BK231), (aK BK232), (aB HB)⟩
         ·(first | rw [c48b0] | (simp only [i64_w, i32_w]; rw [c48b0]) | skip)
          have H' := Aside0.mk H
          clear H
          have hnb52 := NB231_232.out
          have hnc52 := NB232_231.out
          have ⟨hcz53_0, hcz53_1, hcz53_2, hcz53_3, hcz53_4, hfz53_0⟩ := cz5 BK231
          have ⟨hcz54_0, hcz54_1, hcz54_2, hcz54_3, hcz54_4, hfz54_0⟩ := cz5 BK232
          go_wp2
          go_meet
          case rel => exact ⟨_, (true), rB, H', ⟨by have := HJ4.out; have := HJ31.out; have := HJ39.out; first | omega | exact Nat.le_refl _⟩, (aK BK231), (aK BK232), (aB HB)⟩
        case rest =>
         clear HC47
         obtain ⟨kq, x54_46, rfl, HA, HJ46, BK231, BK232, HB⟩ := hcut
         cases kq with
         | zero => exact absurd HA.out (by simp [spec_DoAgree.j3])
         | succ kj46 =>
          have H := HA.out
          clear HA
          simp only [spec_DoAgree.j3] at H
          rcases Bool.eq_false_or_eq_true x54_46 with rfl | rfl
          ·replace H := iT rfl H
           simp only [Option.some.injEq, Prod.mk.injEq] at H
           obtain ⟨rfl, rfl⟩ := H
           go_wp2
           go_ret2
           exact ⟨eB, (bW HB)⟩
          ·replace H := iF (by decide) H
           replace H := Option.bind_eq_some_iff.mp H
           obtain ⟨⟨t240, t241⟩, A560, H⟩ := H
           replace H : ((spec_l1Most.f (wrap64 (a0_4 - x233004_39)) (wrap64 (x233004_39 - a0_4))).bind fun t242 => (if t240 ≤ a2 then (if t242 ≤ a2 then ((spec_l1Most.f (wrap64 (a0_2 - x233002_39)) (wrap64 (x233002_39 - a0_2))).bind fun t243 => (some (decide (t243 ≤ a3), true))) else (some (false, true))) else (some (false, true)))) = some (r1, r2) := H
           have A56 := Aside0.mk A560
           clear A560
           replace H := bA H
           obtain ⟨t242, A57, H⟩ := H
           replace H := ifD H
           rcases H with ⟨H, -, c58b0⟩ | ⟨H, -, c58b0⟩
           ·replace H := ifD H
            rcases H with ⟨H, -, c59b0⟩ | ⟨H, -, c59b0⟩
            ·replace H := bA H
             obtain ⟨t243, A60, H⟩ := H
             simp only [Option.some.injEq, Prod.mk.injEq] at H
             obtain ⟨rfl, rfl⟩ := H
             have hnb61 := NB231_232.out
             have hnc61 := NB232_231.out
             have ⟨hcz62_0, hcz62_1, hcz62_2, hcz62_3, hcz62_4, hfz62_0⟩ := cz5 BK231
             have ⟨hcz63_0, hcz63_1, hcz63_2, hcz63_3, hcz63_4, hfz63_0⟩ := cz5 BK232
             go_wp2_with (first | ((with_reducible refine gC 96 ?_); refine lA (some 60) Try.func96 (spec_TurnBetween.calls a0_3 x233003_39 t240 t241 _ A56.out) ?_; rintro _ ⟨nd, rfl⟩) | ((with_reducible refine gC 97 ?_); refine lA (some 73) Try.func97 (spec_l1Most.calls (wrap64 (a0_4 - x233004_39)) (wrap64 (x233004_39 - a0_4)) t242 _ A57.out) ?_; rintro _ ⟨nd, rfl⟩) | (go_at_call 97; (with_reducible refine (spec_l1Most.calls (wrap64 (a0_2 - x233002_39)) (wrap64 (x233002_39 - a0_2)) t243 _ A60.out).mono ?_); rintro e w' ⟨rfl, ⟨nd, rfl⟩⟩))
             go_ret2
             exact ⟨eB, (bW HB)⟩
            ·simp only [Option.some.injEq, Prod.mk.injEq] at H
             obtain ⟨rfl, rfl⟩ := H
             have hnb64 := NB231_232.out
             have hnc64 := NB232_231.out
             have ⟨hcz65_0, hcz65_1, hcz65_2, hcz65_3, hcz65_4, hfz65_0⟩ := cz5 BK231
             have ⟨hcz66_0, hcz66_1, hcz66_2, hcz66_3, hcz66_4, hfz66_0⟩ := cz5 BK232
             go_wp2_with (first | ((with_reducible refine gC 96 ?_); refine lA (some 60) Try.func96 (spec_TurnBetween.calls a0_3 x233003_39 t240 t241 _ A56.out) ?_; rintro _ ⟨nd, rfl⟩) | ((with_reducible refine gC 97 ?_); refine lA (some 73) Try.func97 (spec_l1Most.calls (wrap64 (a0_4 - x233004_39)) (wrap64 (x233004_39 - a0_4)) t242 _ A57.out) ?_; rintro _ ⟨nd, rfl⟩))
             go_ret2
             exact ⟨eB, (bW HB)⟩
           ·simp only [Option.some.injEq, Prod.mk.injEq] at H
            obtain ⟨rfl, rfl⟩ := H
            have hnb67 := NB231_232.out
            have hnc67 := NB232_231.out
            have ⟨hcz68_0, hcz68_1, hcz68_2, hcz68_3, hcz68_4, hfz68_0⟩ := cz5 BK231
            have ⟨hcz69_0, hcz69_1, hcz69_2, hcz69_3, hcz69_4, hfz69_0⟩ := cz5 BK232
            go_wp2_with (first | ((with_reducible refine gC 96 ?_); refine lA (some 60) Try.func96 (spec_TurnBetween.calls a0_3 x233003_39 t240 t241 _ A56.out) ?_; rintro _ ⟨nd, rfl⟩) | ((with_reducible refine gC 97 ?_); refine lA (some 73) Try.func97 (spec_l1Most.calls (wrap64 (a0_4 - x233004_39)) (wrap64 (x233004_39 - a0_4)) t242 _ A57.out) ?_; rintro _ ⟨nd, rfl⟩))
            go_ret2
            exact ⟨eB, (bW HB)⟩

end Go.Proofs.Ytfaojmabalplfaa.QFnClubs
