/- Contracts of Go functions that FnTrips reaches: the call computes what the plain function says. No condition. -/
import Derived.Test.YtmeaacbnjpgepaaQFnTripsx0
import Derived.Test.YtmeaacbnjpgepaaQFnTripsx3
import Derived.Test.YtmeaacbnjpgepaaQFnTripsx6
import Derived.Test.YtmeaacbnjpgepaaQFnTripsx7
namespace Go.Proofs.Ytmeaacbnjpgepaa.QFnTrips
open Go.RowKit Go.Proofs.YtmeaacbnjpgepaaW.PrintWords Go.Proofs.YtmeaacbnjpgepaaW.PrintLast Go.Proofs.YtmeaacbnjpgepaaW.PrintMore
attribute [local go_sem] max2_int min2_int max_two min_two max_three min_three max_four min_four   -- for this text's walks alone
set_option linter.unusedVariables false
set_option linter.unusedSimpArgs false

/-! ### impl_StepTrip: function 31 -/
def impl_StepTrip.f (k : Nat) (a0_0 a0_1 a0_2 a0_3 a0_4 a1_0 a1_1 : Int) : Option (Int × Int × Int × Int × Int × Bool) := (impl_IsTrip.f k a0_0 a0_1 a0_2 a0_3 a0_4).bind fun t196 => (if t196 = true then ((impl_isTripStep.f a1_0 a1_1).bind fun t197 => (if t197 = true then ((impl_Trip_step.f k a0_0 a0_1 a0_2 a0_3 a0_4 a1_0 a1_1).bind fun bt198 => (some (bt198.1, bt198.2.1, bt198.2.2.1, bt198.2.2.2.1, bt198.2.2.2.2.1, bt198.2.2.2.2.2))) else (some (0, 0, 0, 0, 0, false)))) else (some (0, 0, 0, 0, 0, false)))
theorem impl_StepTrip.mono : ∀ a0 a1 a2 a3 a4 a5 a6 k, LeO (impl_StepTrip.f k a0 a1 a2 a3 a4 a5 a6) (impl_StepTrip.f (k + 1) a0 a1 a2 a3 a4 a5 a6) := by
 intro a0 a1 a2 a3 a4 a5 a6 k
 unfold impl_StepTrip.f
 repeat' with_reducible first | apply impl_IsTrip.mono | apply impl_Trip_step.mono | exact LeO.refl _ | exact LeO.none _ | refine LeO.ite ?_ ?_ | refine LeO.bind ?_ (fun _ => ?_)
set_option maxHeartbeats 8000000 in
set_option maxRecDepth 100000 in
theorem impl_StepTrip.calls (k : Nat) (a0_0 a0_1 a0_2 a0_3 a0_4 a1_0 a1_1 r1 r2 r3 r4 r5 : Int) (r6 : Bool) (w : World) (h : impl_StepTrip.f k a0_0 a0_1 a0_2 a0_3 a0_4 a1_0 a1_1 = some (r1, r2, r3, r4, r5, r6)) :
  Calls Try.prog 31 #[.agg #[.int .i64 a0_0, .int .i64 a0_1, .int .i64 a0_2, .int .i64 a0_3, .int .i64 a0_4], .agg #[.int .i64 a1_0, .int .i64 a1_1]] w fun e w' => e = .returned (.tuple #[.agg #[.int .i64 r1, .int .i64 r2, .int .i64 r3, .int .i64 r4, .int .i64 r5], .bool r6]) ∧ Below w.heap.size w w' := by
 have hu25 := Try.underlying25
 have hu49 := Try.underlying49
 have HB := Aside0.mk (Below.refl w.heap.size w)
 have H := h
 clear h
 unfold impl_StepTrip.f at H
 replace H := bA H
 obtain ⟨t196, A3, H⟩ := H
 rcases Bool.eq_false_or_eq_true t196 with rfl | rfl
 ·replace H := iT rfl H
  replace H := bA H
  obtain ⟨t197, A5, H⟩ := H
  rcases Bool.eq_false_or_eq_true t197 with rfl | rfl
  ·replace H := iT rfl H
   replace H := Option.bind_eq_some_iff.mp H
   obtain ⟨⟨t198, t199, t200, t201, t202, t203⟩, A70, H⟩ := H
   replace H : (some (t198, t199, t200, t201, t202, t203)) = some (r1, r2, r3, r4, r5, r6) := H
   have A7 := Aside0.mk A70
   clear A70
   simp only [Option.some.injEq, Prod.mk.injEq] at H
   obtain ⟨rfl, rfl, rfl, rfl, rfl, rfl⟩ := H
   go_enter Try.func31, Try.ntmps31
   go_wp2_with (first | ((with_reducible refine gD 2 ?_); refine bxE 2 25 #[.int .i64 a0_0, .int .i64 a0_1, .int .i64 a0_2, .int .i64 a0_3, .int .i64 a0_4] fun gb193 w8 hg hbox hb => ?_; have BK193 := Aside0.mk hbox; have GE193 := gB HB hg; replace HB := uB HB hb; clear hb hbox hg) | ((with_reducible refine gD 3 ?_); refine bxE 3 49 #[.int .i64 a1_0, .int .i64 a1_1] fun gb194 w9 hg hbox hb => ?_; have BK194 := Aside0.mk hbox; have GE194 := gB HB hg; have ⟨NB193_194, NB194_193⟩ := nB BK193 hg; replace BK193 := uK BK193 hb; replace HB := uB HB hb; clear hb hbox hg) | ((with_reducible refine gD 4 ?_); refine bxE 4 25 #[.int .i64 0, .int .i64 0, .int .i64 0, .int .i64 0, .int .i64 0] fun gb195 w10 hg hbox hb => ?_; have BK195 := Aside0.mk hbox; have GE195 := gB HB hg; have ⟨NB193_195, NB195_193⟩ := nB BK193 hg; have ⟨NB194_195, NB195_194⟩ := nB BK194 hg; replace BK193 := uK BK193 hb; replace BK194 := uK BK194 hb; replace HB := uB HB hb; clear hb hbox hg; have hnb11 := NB193_194.out; have hnc11 := NB194_193.out; have hnb12 := NB193_195.out; have hnc12 := NB195_193.out; have ⟨hcz13_0, hcz13_1, hcz13_2, hcz13_3, hcz13_4, hfz13_0⟩ := cz5 BK193) | ((with_reducible refine gC 13 ?_); refine lA (some 7) Try.func13 (impl_IsTrip.calls k a0_0 a0_1 a0_2 a0_3 a0_4 true _ A3.out) ?_; intro w14 hb; replace BK193 := uK BK193 hb; replace BK194 := uK BK194 hb; replace BK195 := uK BK195 hb; replace HB := uB HB hb; (try clear hb); have hnb15 := NB194_195.out; have hnc15 := NB195_194.out; have ⟨hcz16_0, hcz16_1, hfz16_0⟩ := cz2 BK194) | (go_at_call 56; (with_reducible refine (impl_isTripStep.calls a1_0 a1_1 true _ A5.out).mono ?_); rintro e w17 ⟨rfl, hb⟩; replace BK193 := uK BK193 hb; replace BK194 := uK BK194 hb; replace BK195 := uK BK195 hb; replace HB := uB HB hb; (try clear hb); have ⟨hcz18_0, hcz18_1, hcz18_2, hcz18_3, hcz18_4, hfz18_0⟩ := cz5 BK193; have ⟨hcz19_0, hcz19_1, hfz19_0⟩ := cz2 BK194) | ((with_reducible refine gC 57 ?_); refine lA (some 17) Try.func57 (impl_Trip_step.calls k a0_0 a0_1 a0_2 a0_3 a0_4 a1_0 a1_1 t198 t199 t200 t201 t202 t203 _ A7.out) ?_; intro w20 hb; replace BK193 := uK BK193 hb; replace BK194 := uK BK194 hb; replace BK195 := uK BK195 hb; replace HB := uB HB hb; (try clear hb); have ⟨hcz21_0, hcz21_1, hcz21_2, hcz21_3, hcz21_4, hfz21_0⟩ := cz5 BK195))
   refine bodyPost_ret (results_ct rfl _ _ gb195 25 #[.int .i64 t198, .int .i64 t199, .int .i64 t200, .int .i64 t201, .int .i64 t202] (0, 0) _ rfl (by exact pW BK195) Try.underlying25 rfl (by kernel_rfl)) rfl ?_
   exact ⟨eB, (bW HB)⟩
  ·replace H := iF (by decide) H
   simp only [Option.some.injEq, Prod.mk.injEq] at H
   obtain ⟨rfl, rfl, rfl, rfl, rfl, rfl⟩ := H
   go_enter Try.func31, Try.ntmps31
   go_wp2_with (first | ((with_reducible refine gD 2 ?_); refine bxE 2 25 #[.int .i64 a0_0, .int .i64 a0_1, .int .i64 a0_2, .int .i64 a0_3, .int .i64 a0_4] fun gb193 w22 hg hbox hb => ?_; have BK193 := Aside0.mk hbox; have GE193 := gB HB hg; replace HB := uB HB hb; clear hb hbox hg) | ((with_reducible refine gD 3 ?_); refine bxE 3 49 #[.int .i64 a1_0, .int .i64 a1_1] fun gb194 w23 hg hbox hb => ?_; have BK194 := Aside0.mk hbox; have GE194 := gB HB hg; have ⟨NB193_194, NB194_193⟩ := nB BK193 hg; replace BK193 := uK BK193 hb; replace HB := uB HB hb; clear hb hbox hg) | ((with_reducible refine gD 4 ?_); refine bxE 4 25 #[.int .i64 0, .int .i64 0, .int .i64 0, .int .i64 0, .int .i64 0] fun gb195 w24 hg hbox hb => ?_; have BK195 := Aside0.mk hbox; have GE195 := gB HB hg; have ⟨NB193_195, NB195_193⟩ := nB BK193 hg; have ⟨NB194_195, NB195_194⟩ := nB BK194 hg; replace BK193 := uK BK193 hb; replace BK194 := uK BK194 hb; replace HB := uB HB hb; clear hb hbox hg; have hnb25 := NB193_194.out; have hnc25 := NB194_193.out; have hnb26 := NB193_195.out; have hnc26 := NB195_193.out; have ⟨hcz27_0, hcz27_1, hcz27_2, hcz27_3, hcz27_4, hfz27_0⟩ := cz5 BK193) | ((with_reducible refine gC 13 ?_); refine lA (some 7) Try.func13 (impl_IsTrip.calls k a0_0 a0_1 a0_2 a0_3 a0_4 true _ A3.out) ?_; intro w28 hb; replace BK193 := uK BK193 hb; replace BK194 := uK BK194 hb; replace BK195 := uK BK195 hb; replace HB := uB HB hb; (try clear hb); have hnb29 := NB194_195.out; have hnc29 := NB195_194.out; have ⟨hcz30_0, hcz30_1, hfz30_0⟩ := cz2 BK194) | (go_at_call 56; (with_reducible refine (impl_isTripStep.calls a1_0 a1_1 false _ A5.out).mono ?_); rintro e w31 ⟨rfl, hb⟩; replace BK193 := uK BK193 hb; replace BK194 := uK BK194 hb; replace BK195 := uK BK195 hb; replace HB := uB HB hb; (try clear hb); have ⟨hcz32_0, hcz32_1, hcz32_2, hcz32_3, hcz32_4, hfz32_0⟩ := cz5 BK195))
   refine bodyPost_ret (results_ct rfl _ _ gb195 25 #[.int .i64 0, .int .i64 0, .int .i64 0, .int .i64 0, .int .i64 0] (0, 0) _ rfl (by exact pW BK195) Try.underlying25 rfl (by kernel_rfl)) rfl ?_
   exact ⟨eB, (bW HB)⟩
 ·replace H := iF (by decide) H
  simp only [Option.some.injEq, Prod.mk.injEq] at H
  obtain ⟨rfl, rfl, rfl, rfl, rfl, rfl⟩ := H
  go_enter Try.func31, Try.ntmps31
  go_wp2_with (first | ((with_reducible refine gD 2 ?_); refine bxE 2 25 #[.int .i64 a0_0, .int .i64 a0_1, .int .i64 a0_2, .int .i64 a0_3, .int .i64 a0_4] fun gb193 w33 hg hbox hb => ?_; have BK193 := Aside0.mk hbox; have GE193 := gB HB hg; replace HB := uB HB hb; clear hb hbox hg) | ((with_reducible refine gD 3 ?_); refine bxE 3 49 #[.int .i64 a1_0, .int .i64 a1_1] fun gb194 w34 hg hbox hb => ?_; have BK194 := Aside0.mk hbox; have GE194 := gB HB hg; have ⟨NB193_194, NB194_193⟩ := nB BK193 hg; replace BK193 := uK BK193 hb; replace HB := uB HB hb; clear hb hbox hg) | ((with_reducible refine gD 4 ?_); refine bxE 4 25 #[.int .i64 0, .int .i64 0, .int .i64 0, .int .i64 0, .int .i64 0] fun gb195 w35 hg hbox hb => ?_; have BK195 := Aside0.mk hbox; have GE195 := gB HB hg; have ⟨NB193_195, NB195_193⟩ := nB BK193 hg; have ⟨NB194_195, NB195_194⟩ := nB BK194 hg; replace BK193 := uK BK193 hb; replace BK194 := uK BK194 hb; replace HB := uB HB hb; clear hb hbox hg; have hnb36 := NB193_194.out; have hnc36 := NB194_193.out; have hnb37 := NB193_195.out; have hnc37 := NB195_193.out; have ⟨hcz38_0, hcz38_1, hcz38_2, hcz38_3, hcz38_4, hfz38_0⟩ := cz5 BK193) | ((with_reducible refine gC 13 ?_); refine lA (some 7) Try.func13 (impl_IsTrip.calls k a0_0 a0_1 a0_2 a0_3 a0_4 false _ A3.out) ?_; intro w39 hb; replace BK193 := uK BK193 hb; replace BK194 := uK BK194 hb; replace BK195 := uK BK195 hb; replace HB := uB HB hb; (try clear hb); have hnb40 := NB195_194.out; have hnc40 := NB194_195.out; have ⟨hcz41_0, hcz41_1, hcz41_2, hcz41_3, hcz41_4, hfz41_0⟩ := cz5 BK195))
  refine bodyPost_ret (results_ct rfl _ _ gb195 25 #[.int .i64 0, .int .i64 0, .int .i64 0, .int .i64 0, .int .i64 0] (0, 0) _ rfl (by exact pW BK195) Try.underlying25 rfl (by kernel_rfl)) rfl ?_
  exact ⟨eB, (bW HB)⟩

end Go.Proofs.Ytmeaacbnjpgepaa.QFnTrips
