/- Contracts of Go functions that FnTrips reaches: the call computes what the plain function says. No condition. -/
import Derived.Test.YtmeaacbnjpgepaaQFnTripsx0
import Derived.Test.YtmeaacbnjpgepaaQFnTripsx10
import Derived.Test.YtmeaacbnjpgepaaQFnTripsx11
namespace Go.Proofs.Ytmeaacbnjpgepaa.QFnTrips
open Go.RowKit Go.Proofs.YtmeaacbnjpgepaaW.PrintWords Go.Proofs.YtmeaacbnjpgepaaW.PrintLast Go.Proofs.YtmeaacbnjpgepaaW.PrintMore
attribute [local go_sem] max2_int min2_int max_two min_two max_three min_three max_four min_four   -- for this text's walks alone
set_option linter.unusedVariables false
set_option linter.unusedSimpArgs false

/-! ### laws_vHas: function 40 -/
def laws_vHas.l0 : Nat → List Int → Int → Int → Option (Bool)
 | 0, _, _, _ => none
 | k + 1, x0, x1, x5 => if x5 < (x0.length : Int) then (if 0 ≤ x5 then (if (rd x0 x5) = x1 then (some true) else (laws_vHas.l0 k x0 x1 (wrap64 (x5 + 1)))) else (none)) else (some false)
def laws_vHas.f (k : Nat) (l0 : List Int) (a1 : Int) : Option (Bool) := laws_vHas.l0 k l0 a1 0
theorem laws_vHas.mono_l : ∀ k, (∀ y0 y1 y2, LeO (laws_vHas.l0 k y0 y1 y2) (laws_vHas.l0 (k + 1) y0 y1 y2))
 | 0 => fun _ _ _ r h => by simp [laws_vHas.l0] at h
 | k + 1 => by
  have ih0 := laws_vHas.mono_l k
  ·intro y0 y1 y2
   unfold laws_vHas.l0
   repeat' with_reducible first | apply ih0 | exact LeO.refl _ | exact LeO.none _ | refine LeO.ite ?_ ?_ | refine LeO.bind ?_ (fun _ => ?_)
theorem laws_vHas.mono : ∀ a0 a1 k, LeO (laws_vHas.f k a0 a1) (laws_vHas.f (k + 1) a0 a1) := by
 intro a0 a1 k
 have ih0 := laws_vHas.mono_l k
 unfold laws_vHas.f
 repeat' with_reducible first | apply ih0 | exact LeO.refl _ | exact LeO.none _ | refine LeO.ite ?_ ?_ | refine LeO.bind ?_ (fun _ => ?_)
set_option maxHeartbeats 8000000 in
set_option maxRecDepth 100000 in
theorem laws_vHas.calls (k : Nat) (A0 : Option Addr) (c0 : Nat) (l0 : List Int) (a1 : Int) (r : Bool) (w : World) (hr0 : Kd.C (Kd.int .i64) w A0 l0.length l0) (hc0 : l0.length ≤ c0) (h : laws_vHas.f k l0 a1 = some r) :
  Calls Try.prog 40 #[.slice A0 l0.length c0, .int .i64 a1] w fun e w' => e = .returned (.bool r) ∧ Drawn0 w w' := by
 have HR0 := Aside0.mk hr0
 have HC0 := Aside0.mk hc0
 clear hr0 hc0
 have H : (laws_vHas.l0 k l0 a1 0) = some r := h
 clear h
 have H' := Aside0.mk H
 clear H
 go_enter Try.func40, Try.ntmps40
 go_wp2
 go_loopg [5] k (fun kq v5 w' => ∃ (x5_1 : Int), v5 = .int .i64 x5_1 ∧ Aside0 (laws_vHas.l0 kq l0 a1 x5_1 = some r) ∧ Aside0 (kq ≤ k) ∧ Drawn0 w w')
 case atStart => exact ⟨(0), rB, H', ⟨Nat.le_refl _⟩, by repeat (first | exact Drawn0.refl _ | apply Drawn0.step)⟩
 case round =>
  clear H'
  obtain ⟨x5_1, rfl, HA, HK1, ⟨m1, rfl⟩⟩ := hrel
  cases gk with
  | zero => exact absurd HA.out (by simp [laws_vHas.l0])
  | succ k1 =>
   have H := HA.out
   clear HA
   simp only [laws_vHas.l0] at H
   replace H := ifD H
   rcases H with ⟨H, -, c3b0⟩ | ⟨H, -, c3b0⟩
   ·by_cases c4 : 0 ≤ x5_1
    ·rw [if_pos c4] at H
     have c4b0 : decide (0 ≤ x5_1) = true := decide_eq_true c4
     clear c4
     replace H := ifI H
     rcases H with ⟨H, -, c5b0, c5b1⟩ | ⟨H, c5, c5b0, c5b1⟩
     ·obtain rfl := Option.some.inj H
      have p338 : 0 ≤ (x5_1 : Int) := of_decide_eq_true asmB
      have q338 : x5_1 < (l0.length : Int) := of_decide_eq_true asmB
      obtain ⟨ad338, e338, hx338_0⟩ := Kd.at_int HR0.out x5_1 p338 q338
      cases e338
      replace p338 := eq_true p338
      replace q338 := eq_true q338
      go_wp2
      go_ret
      exact ⟨rB, by repeat (first | exact Drawn0.refl _ | apply Drawn0.step)⟩
     ·have H' := Aside0.mk H
      clear H
      have p338 : 0 ≤ (x5_1 : Int) := of_decide_eq_true asmB
      have q338 : x5_1 < (l0.length : Int) := of_decide_eq_true asmB
      obtain ⟨ad338, e338, hx338_0⟩ := Kd.at_int HR0.out x5_1 p338 q338
      cases e338
      replace p338 := eq_true p338
      replace q338 := eq_true q338
      go_wp2
      go_roundg k1
      case measure => have := HK1.out; omega
      case rel => exact ⟨(wrap64 (x5_1 + 1)), rB, H', ⟨by have := HK1.out; omega⟩, by repeat (first | exact Drawn0.refl _ | apply Drawn0.step)⟩
    ·rw [if_neg c4] at H
     exact absurd H (by simp)
   ·obtain rfl := Option.some.inj H
    go_wp2
    go_ret
    exact ⟨rB, by repeat (first | exact Drawn0.refl _ | apply Drawn0.step)⟩

/-! ### spec_DrawRunTrip: function 41 -/
mutual
def spec_DrawRunTrip.l0 : Nat → List (S49) → Int → List Int → Int → Int → Int → Int → Int → Int → Int → Option (Int × Int × Int × Int × Int × (List (S49)))
 | 0, _, _, _, _, _, _, _, _, _, _ => none
 | k + 1, x6, x7, x341000, x341001, x341002, x349000, x349001, x349002, x349003, x349004 => if x7 > 0 then ((spec_l1Cur_tripStep.f k x341000 x341001 x341002).bind fun bt355 => (if x6.length < 8796093022208 then (spec_DrawRunTrip.l0 k (x6 ++ [(⟨bt355.1, bt355.2.1⟩ : S49)]) (wrap64 (x7 - 1)) x341000 bt355.2.2.1 bt355.2.2.2 x349000 x349001 x349002 x349003 x349004) else (none))) else ((spec_l1Cur_one.f x341000 x341001 x341002 24).bind fun bt362 => (if bt362.1 = true then (spec_DrawRunTrip.l1 k x6 x341000 bt362.2.1 bt362.2.2 x349000 x349001 x349002 x349003 x349004) else (some (x349000, x349001, x349002, x349003, x349004, x6))))
def spec_DrawRunTrip.l1 : Nat → List (S49) → List Int → Int → Int → Int → Int → Int → Int → Int → Option (Int × Int × Int × Int × Int × (List (S49)))
 | 0, _, _, _, _, _, _, _, _, _ => none
 | k + 1, x6, x341000, x341001, x341002, x349000, x349001, x349002, x349003, x349004 => (spec_l1Cur_pick.f x341000 x341001 x341002 2).bind fun bt365 => (if (x6.length : Int) < (wrap64 (20 + bt365.1)) then (if x6.length < 8796093022208 then (spec_DrawRunTrip.l1 k (x6 ++ [(⟨3, 1⟩ : S49)]) x341000 bt365.2.1 bt365.2.2 x349000 x349001 x349002 x349003 x349004) else (none)) else (some (x349000, x349001, x349002, x349003, x349004, x6)))
end
def spec_DrawRunTrip.f (k : Nat) (l0 : List Int) : Option (Int × Int × Int × Int × Int × (List (S49))) := (spec_l1Cur_trip.f k l0 0 0).bind fun bt341 => ((spec_l1Cur_pick.f l0 bt341.2.2.2.2.2.1 bt341.2.2.2.2.2.2 9).bind fun bt352 => (spec_DrawRunTrip.l0 k (([] : List (S49))) bt352.1 l0 bt352.2.1 bt352.2.2 bt341.1 bt341.2.1 bt341.2.2.1 bt341.2.2.2.1 bt341.2.2.2.2.1))
theorem spec_DrawRunTrip.mono_l : ∀ k, (∀ y0 y1 y2 y3 y4 y5 y6 y7 y8 y9, LeO (spec_DrawRunTrip.l0 k y0 y1 y2 y3 y4 y5 y6 y7 y8 y9) (spec_DrawRunTrip.l0 (k + 1) y0 y1 y2 y3 y4 y5 y6 y7 y8 y9)) ∧ (∀ y0 y1 y2 y3 y4 y5 y6 y7 y8, LeO (spec_DrawRunTrip.l1 k y0 y1 y2 y3 y4 y5 y6 y7 y8) (spec_DrawRunTrip.l1 (k + 1) y0 y1 y2 y3 y4 y5 y6 y7 y8))
 | 0 => ⟨fun _ _ _ _ _ _ _ _ _ _ r h => by simp [spec_DrawRunTrip.l0] at h, fun _ _ _ _ _ _ _ _ _ r h => by simp [spec_DrawRunTrip.l1] at h⟩
 | k + 1 => by
  obtain ⟨ih0, ih1⟩ := spec_DrawRunTrip.mono_l k
  refine ⟨?_, ?_⟩
  ·intro y0 y1 y2 y3 y4 y5 y6 y7 y8 y9
   unfold spec_DrawRunTrip.l0
   repeat' with_reducible first | apply ih0 | apply ih1 | apply spec_l1Cur_trip.mono | apply spec_l1Cur_tripStep.mono | exact LeO.refl _ | exact LeO.none _ | refine LeO.ite ?_ ?_ | refine LeO.bind ?_ (fun _ => ?_)
  ·intro y0 y1 y2 y3 y4 y5 y6 y7 y8
   unfold spec_DrawRunTrip.l1
   repeat' with_reducible first | apply ih0 | apply ih1 | apply spec_l1Cur_trip.mono | apply spec_l1Cur_tripStep.mono | exact LeO.refl _ | exact LeO.none _ | refine LeO.ite ?_ ?_ | refine LeO.bind ?_ (fun _ => ?_)
theorem spec_DrawRunTrip.mono : ∀ a0 k, LeO (spec_DrawRunTrip.f k a0) (spec_DrawRunTrip.f (k + 1) a0) := by
 intro a0 k
 obtain ⟨ih0, ih1⟩ := spec_DrawRunTrip.mono_l k
 unfold spec_DrawRunTrip.f
 repeat' with_reducible first | apply ih0 | apply ih1 | apply spec_l1Cur_trip.mono | apply spec_l1Cur_tripStep.mono | exact LeO.refl _ | exact LeO.none _ | refine LeO.ite ?_ ?_ | refine LeO.bind ?_ (fun _ => ?_)
set_option maxHeartbeats 8000000 in
set_option maxRecDepth 100000 in
theorem spec_DrawRunTrip.calls (k : Nat) (A0 : Option Addr) (c0 : Nat) (l0 : List Int) (r1 r2 r3 r4 r5 : Int) (r6 : List (S49)) (w : World) (hr0 : Kd.C (Kd.int .u8) w A0 l0.length l0) (hc0 : l0.length ≤ c0) (h : spec_DrawRunTrip.f k l0 = some (r1, r2, r3, r4, r5, r6)) :
  Calls Try.prog 41 #[.slice A0 l0.length c0] w fun e w' => ∃ v5_ : Value, e = .returned (.tuple #[.agg #[.int .i64 r1, .int .i64 r2, .int .i64 r3, .int .i64 r4, .int .i64 r5], v5_]) ∧ Kd.R k49 49 w' w.heap.size (fun _ => True) v5_ r6 ∧ Below w.heap.size w w' := by
 have hu25 := Try.underlying25
 have hu81 := Try.underlying81
 have hu49 := Try.underlying49
 have HR0 := Aside0.mk hr0
 have HC0 := Aside0.mk hc0
 clear hr0 hc0
 have HB := Aside0.mk (Below.refl w.heap.size w)
 have H := h
 clear h
 unfold spec_DrawRunTrip.f at H
 replace H := Option.bind_eq_some_iff.mp H
 obtain ⟨⟨t341, t342, t343, t344, t345, t346, t347⟩, A20, H⟩ := H
 replace H : ((spec_l1Cur_pick.f l0 t346 t347 9).bind fun bt352 => (spec_DrawRunTrip.l0 k (([] : List (S49))) bt352.1 l0 bt352.2.1 bt352.2.2 t341 t342 t343 t344 t345)) = some (r1, r2, r3, r4, r5, r6) := H
 have A2 := Aside0.mk A20
 clear A20
 obtain ⟨y349, hy349⟩ : ∃ y_ : List (S49), y_ = (([] : List (S49))) := ⟨_, rfl⟩
 replace H : ((spec_l1Cur_pick.f l0 t346 t347 9).bind fun bt352 => (spec_DrawRunTrip.l0 k y349 bt352.1 l0 bt352.2.1 bt352.2.2 t341 t342 t343 t344 t345)) = some (r1, r2, r3, r4, r5, r6) := by first | (rw [hy349]; with_reducible exact H) | (have H2_ := (Option.bind_some _ _).symm.trans H; rw [hy349]; with_reducible exact H2_) | (have H2_ := (Option.bind_some _ _).symm.trans H; with_reducible exact H2_) | with_reducible exact H | (rw [hy349]; exact H) | exact H
 have Ny349 := Aside0.mk hy349
 clear hy349
 replace H := Option.bind_eq_some_iff.mp H
 obtain ⟨⟨t352, t353, t354⟩, A30, H⟩ := H
 replace H : (spec_DrawRunTrip.l0 k y349 t352 l0 t353 t354 t341 t342 t343 t344 t345) = some (r1, r2, r3, r4, r5, r6) := H
 have A3 := Aside0.mk A30
 clear A30
 have H' := Aside0.mk H
 clear H
 go_enter Try.func41, Try.ntmps41
 go_wp2_with (first | ((with_reducible refine gD 2 ?_); refine bxE 2 25 #[.int .i64 0, .int .i64 0, .int .i64 0, .int .i64 0, .int .i64 0] fun gb339 w4 hg hbox hb => ?_; have BK339 := Aside0.mk hbox; have GE339 := gB HB hg; replace HB := uB HB hb; clear hb hbox hg) | ((with_reducible refine gD 10 ?_); refine bxE 10 81 #[.slice A0 l0.length c0, .int .i64 0, .int .u64 0] fun gb340 w5 hg hbox hb => ?_; have GE340 := gB HB hg; have ⟨NB339_340, NB340_339⟩ := nB BK339 hg; have HI340 := Aside0.mk ((⟨_, _, hbox, (by rw [hg]; exact (below_size (bW HB)) : w.heap.size ≤ gb340), HR0.out⟩ : IsS81 w w5 gb340 l0 0 0)); replace BK339 := uK BK339 hb; replace HB := uB HB hb; clear hb hbox hg) | ((with_reducible refine gate_callee (f := 61) rfl ?_); refine goesL_ (some 12) rfl rfl Try.func61 (by kernel_rfl) rfl #[.pointer (some ⟨gb340, 0, none⟩)] rfl argsB ?_; (with_reducible refine (spec_l1Cur_trip.calls k gb340 l0 0 0 t341 t342 t343 t344 t345 t346 t347 w _ ?side1 ?side2 A2.out).mono ?_); (case side1 => repeat (first | (with_reducible first | exact HI340.out | apply IsS81.alloc | apply IsS81.drewN | apply IsS81.drew | apply IsS81.set_1 | apply IsS81.set_2 | refine IsS81.far ?_ NB340_339.out _) | exact HI340.out)); (case side2 => repeat (first | (with_reducible first | exact HB.out | apply below_alloc | apply pw_below_drewN | apply below_drew1 | refine below_set ?_ (IsS81.ge HI340.out) | refine below_set ?_ GE339.out) | exact HB.out)); rintro e w6 ⟨rfl, hi, hb, hk⟩; refine ⟨_, rfl, ?_⟩; replace BK339 := Aside0.mk (KeepBut.blk hk (g' := gb339) (o := .cells #[.int .i64 0, .int .i64 0, .int .i64 0, .int .i64 0, .int .i64 0] 25 (0, 0)) (upK BK339.out) NB339_340.out (by simp)); replace HB := Aside0.mk (hb); replace HI340 := Aside0.mk (hi); (try clear hb); (try clear hk); (try clear hi)) | ((with_reducible refine gD 5 ?_); refine bxE 5 25 #[.int .i64 0, .int .i64 0, .int .i64 0, .int .i64 0, .int .i64 0] fun gb348 w7 hg hbox hb => ?_; have BK348 := Aside0.mk hbox; have GE348 := Aside0.mk ((by rw [hg]; exact (below_size (by repeat (first | (with_reducible first | exact HB.out | apply below_alloc | apply pw_below_drewN | apply below_drew1 | refine below_set ?_ (IsS81.ge HI340.out) | refine below_set ?_ GE339.out) | exact HB.out))) : w.heap.size ≤ gb348)); have ⟨NB339_348, NB348_339⟩ := nB BK339 hg; have NB340_348 := Aside0.mk ((by rw [hg]; exact Nat.ne_of_lt (IsS81.lt (show IsS81 w _ gb340 l0 t346 t347 from by repeat (first | (with_reducible first | exact HI340.out | apply IsS81.alloc | apply IsS81.drewN | apply IsS81.drew | apply IsS81.set_1 | apply IsS81.set_2 | refine IsS81.far ?_ NB340_339.out _) | exact HI340.out))) : gb340 ≠ gb348)); have NB348_340 := Aside0.mk ((by rw [hg]; exact Nat.ne_of_gt (IsS81.lt (show IsS81 w _ gb340 l0 t346 t347 from by repeat (first | (with_reducible first | exact HI340.out | apply IsS81.alloc | apply IsS81.drewN | apply IsS81.drew | apply IsS81.set_1 | apply IsS81.set_2 | refine IsS81.far ?_ NB340_339.out _) | exact HI340.out))) : gb348 ≠ gb340)); replace BK339 := uK BK339 hb; replace HB := Aside0.mk (below_step (by repeat (first | (with_reducible first | exact HB.out | apply below_alloc | apply pw_below_drewN | apply below_drew1 | refine below_set ?_ (IsS81.ge HI340.out) | refine below_set ?_ GE339.out) | exact HB.out)) hb); replace HI340 := Aside0.mk (IsS81.below (by repeat (first | (with_reducible first | exact HI340.out | apply IsS81.alloc | apply IsS81.drewN | apply IsS81.drew | apply IsS81.set_1 | apply IsS81.set_2 | refine IsS81.far ?_ NB340_339.out _) | exact HI340.out)) hb); clear hb hbox hg; have hnb8 := NB348_339.out; have hnc8 := NB339_348.out; have hnb9 := NB348_340.out; have hnc9 := NB340_348.out; have ⟨hcz10_0, hcz10_1, hcz10_2, hcz10_3, hcz10_4, hfz10_0⟩ := cz5 BK348) | ((with_reducible refine gate_dst (N := 13) rfl ?_); refine Kd.R_lit k49 _ 49 ?hg (N := 13) ?hd (xs := ([] : List (S49))) (inner := []) (ok := fun _ => True) (okp := fun _ => True) ?hr ?hp (fun _ hk => hk) trivial (Below.refl _ _) (Nat.le_refl _) (by simp) ?_; (case hd => rfl); (case hg => rfl); (case hr => first | (go_simp; done) | (go_simp; rfl)); (case hp => exact (Reps.none _ _)); intro v350 w11 ho12 hb hg_ hnew_; clear hg_ hnew_; (first | rw [← Ny349.out] at ho12 | (simp only [Int.reduceToNat] at ho12; rw [← Ny349.out] at ho12)); have HO351 := Aside0.mk (Kd.R_lower ho12 (below_size (by repeat (first | (with_reducible first | exact HB.out | apply below_alloc | apply pw_below_drewN | apply below_drew1 | refine below_set ?_ (IsS81.ge HI340.out) | refine below_set ?_ GE339.out | refine below_set ?_ GE348.out) | exact HB.out)))); replace BK339 := uQ BK339 hb #[.int .i64 0, .int .i64 0, .int .i64 0, .int .i64 0, .int .i64 0]; replace BK348 := uQ BK348 hb #[.int .i64 t341, .int .i64 t342, .int .i64 t343, .int .i64 t344, .int .i64 t345]; replace HB := Aside0.mk (below_step (by repeat (first | (with_reducible first | exact HB.out | apply below_alloc | apply pw_below_drewN | apply below_drew1 | refine below_set ?_ (IsS81.ge HI340.out) | refine below_set ?_ GE339.out | refine below_set ?_ GE348.out) | exact HB.out)) hb); replace HI340 := Aside0.mk (IsS81.below (show IsS81 w (((((w7.setCell ⟨gb348, 0, none⟩ (.int .i64 t341)).setCell ⟨gb348, 1, none⟩ (.int .i64 t342)).setCell ⟨gb348, 2, none⟩ (.int .i64 t343)).setCell ⟨gb348, 3, none⟩ (.int .i64 t344)).setCell ⟨gb348, 4, none⟩ (.int .i64 t345)) gb340 l0 t346 t347 from by repeat (first | (with_reducible first | exact HI340.out | apply IsS81.alloc | apply IsS81.drewN | apply IsS81.drew | apply IsS81.set_1 | apply IsS81.set_2 | refine IsS81.far ?_ NB340_339.out _ | refine IsS81.far ?_ NB340_348.out _) | exact HI340.out)) hb); clear hb ho12) | ((with_reducible refine gate_callee (f := 63) rfl ?_); refine goesL_ (some 15) rfl rfl Try.func63 (by kernel_rfl) rfl #[.pointer (some ⟨gb340, 0, none⟩), .int .i64 9] rfl argsB ?_; (with_reducible refine (spec_l1Cur_pick.calls gb340 l0 t346 t347 9 t352 t353 t354 w _ ?side1 ?side2 A3.out).mono ?_); (case side1 => repeat (first | (with_reducible first | exact HI340.out | apply IsS81.alloc | apply IsS81.drewN | apply IsS81.drew | apply IsS81.set_1 | apply IsS81.set_2 | refine IsS81.far ?_ NB340_339.out _ | refine IsS81.far ?_ NB340_348.out _) | exact HI340.out)); (case side2 => repeat (first | (with_reducible first | exact HB.out | apply below_alloc | apply pw_below_drewN | apply below_drew1 | refine below_set ?_ (IsS81.ge HI340.out) | refine below_set ?_ GE339.out | refine below_set ?_ GE348.out) | exact HB.out)); rintro e w13 ⟨rfl, hi, hb, hk⟩; refine ⟨_, rfl, ?_⟩; replace BK339 := Aside0.mk (KeepBut.blk hk (g' := gb339) (o := .cells #[.int .i64 0, .int .i64 0, .int .i64 0, .int .i64 0, .int .i64 0] 25 (0, 0)) (upK BK339.out) NB339_340.out (by simp)); replace BK348 := Aside0.mk (KeepBut.blk hk (g' := gb348) (o := .cells #[.int .i64 t341, .int .i64 t342, .int .i64 t343, .int .i64 t344, .int .i64 t345] 25 (0, 0)) (upK BK348.out) NB348_340.out (by simp)); replace HO351 := Aside0.mk (Kd.R_mono (Kd.R_keep (IsS81.apart (show IsS81 w _ gb340 l0 t346 t347 from by repeat (first | (with_reducible first | exact HI340.out | apply IsS81.alloc | apply IsS81.drewN | apply IsS81.drew | apply IsS81.set_1 | apply IsS81.set_2 | refine IsS81.far ?_ NB340_339.out _ | refine IsS81.far ?_ NB340_348.out _) | exact HI340.out)) (upR HO351.out) (by decide)) hk (fun _ h => h.2)) (fun _ h => h.1)); replace HB := Aside0.mk (hb); replace HI340 := Aside0.mk (hi); (try clear hb); (try clear hk); (try clear hi)))
 (try simp only [Act.put, List.setIfInBounds_toArray, List.set_cons_zero, List.set_cons_succ])
 go_loopg [6, 7] k (fun kq v6 v7 w' => ∃ (x6_1 : List (S49)) (x7_1 x341001_1 x341002_1 : Int), v7 = .int .i64 x7_1 ∧ Aside0 (spec_DrawRunTrip.l0 kq x6_1 x7_1 l0 x341001_1 x341002_1 t341 t342 t343 t344 t345 = some (r1, r2, r3, r4, r5, r6)) ∧ Aside0 (kq ≤ k) ∧ Aside0 (Kd.R k49 49 w' w.heap.size (fun _ => True) v6 x6_1) ∧ Aside0 (w'.heap[gb339]? = some (.cells #[.int .i64 0, .int .i64 0, .int .i64 0, .int .i64 0, .int .i64 0] 25 (0, 0))) ∧ Aside0 (w'.heap[gb348]? = some (.cells #[.int .i64 t341, .int .i64 t342, .int .i64 t343, .int .i64 t344, .int .i64 t345] 25 (0, 0))) ∧ Aside0 (IsS81 w w' gb340 l0 x341001_1 x341002_1) ∧ Aside0 (Below w.heap.size w w'))
 case atStart => exact ⟨(y349), (t352), (t353), (t354), rB, H', ⟨Nat.le_refl _⟩, ⟨upR HO351.out⟩, (aK BK339), (aK BK348), ⟨by repeat (first | (with_reducible first | exact HI340.out | apply IsS81.alloc | apply IsS81.drewN | apply IsS81.drew | apply IsS81.set_1 | apply IsS81.set_2 | refine IsS81.far ?_ NB340_339.out _ | refine IsS81.far ?_ NB340_348.out _) | exact HI340.out)⟩, ⟨by repeat (first | (with_reducible first | exact HB.out | apply below_alloc | apply pw_below_drewN | apply below_drew1 | refine below_set ?_ (IsS81.ge HI340.out) | refine below_set ?_ GE339.out | refine below_set ?_ GE348.out) | exact HB.out)⟩⟩
 case round =>
  clear H'
  try clear hcz10_0
  try clear hcz10_1
  try clear hcz10_2
  try clear hcz10_3
  try clear hcz10_4
  try clear hfz10_0
  obtain ⟨x6_1, x7_1, x341001_1, x341002_1, rfl, HA, HK1, HO_6, BK339, BK348, HI340, HB⟩ := hrel
  cases gk with
  | zero => exact absurd HA.out (by simp [spec_DrawRunTrip.l0])
  | succ k1 =>
   have H := HA.out
   clear HA
   simp only [spec_DrawRunTrip.l0] at H
   replace H := ifD H
   rcases H with ⟨H, -, c14b0⟩ | ⟨H, -, c14b0⟩
   ·replace H := Option.bind_eq_some_iff.mp H
    obtain ⟨⟨t355, t356, t357, t358⟩, A150, H⟩ := H
    replace H : (if x6_1.length < 8796093022208 then (spec_DrawRunTrip.l0 k1 (x6_1 ++ [(⟨t355, t356⟩ : S49)]) (wrap64 (x7_1 - 1)) l0 t357 t358 t341 t342 t343 t344 t345) else (none)) = some (r1, r2, r3, r4, r5, r6) := H
    have A15 := Aside0.mk A150
    clear A150
    by_cases c16 : x6_1.length < 8796093022208
    ·rw [if_pos c16] at H
     have LMc16 := Aside0.mk c16
     clear c16
     obtain ⟨y359, hy359⟩ : ∃ y_ : List (S49), y_ = (x6_1 ++ [(⟨t355, t356⟩ : S49)]) := ⟨_, rfl⟩
     replace H : (spec_DrawRunTrip.l0 k1 y359 (wrap64 (x7_1 - 1)) l0 t357 t358 t341 t342 t343 t344 t345) = some (r1, r2, r3, r4, r5, r6) := by first | (rw [hy359]; with_reducible exact H) | (have H2_ := (Option.bind_some _ _).symm.trans H; rw [hy359]; with_reducible exact H2_) | (have H2_ := (Option.bind_some _ _).symm.trans H; with_reducible exact H2_) | with_reducible exact H | (rw [hy359]; exact H) | exact H
     have Ny359 := Aside0.mk hy359
     clear hy359
     have H' := Aside0.mk H
     clear H
     go_wp2_with (first | ((with_reducible refine gate_callee (f := 62) rfl ?_); refine goesL_ (some 22) rfl rfl Try.func62 (by kernel_rfl) rfl #[.pointer (some ⟨gb340, 0, none⟩)] rfl argsB ?_; (with_reducible refine (spec_l1Cur_tripStep.calls k1 gb340 l0 x341001_1 x341002_1 t355 t356 t357 t358 w _ ?side1 ?side2 A15.out).mono ?_); (case side1 => repeat (first | (with_reducible first | exact HI340.out | apply IsS81.alloc | apply IsS81.drewN | apply IsS81.drew | apply IsS81.set_1 | apply IsS81.set_2 | refine IsS81.far ?_ NB340_339.out _ | refine IsS81.far ?_ NB340_348.out _) | exact HI340.out)); (case side2 => repeat (first | (with_reducible first | exact HB.out | apply below_alloc | apply pw_below_drewN | apply below_drew1 | refine below_set ?_ (IsS81.ge HI340.out) | refine below_set ?_ GE339.out | refine below_set ?_ GE348.out) | exact HB.out)); rintro e w17 ⟨rfl, hi, hb, hk⟩; refine ⟨_, rfl, ?_⟩; replace HO_6 := Aside0.mk (Kd.R_mono (Kd.R_keep (IsS81.apart (show IsS81 w _ gb340 l0 x341001_1 x341002_1 from by repeat (first | (with_reducible first | exact HI340.out | apply IsS81.alloc | apply IsS81.drewN | apply IsS81.drew | apply IsS81.set_1 | apply IsS81.set_2 | refine IsS81.far ?_ NB340_339.out _ | refine IsS81.far ?_ NB340_348.out _) | exact HI340.out)) (upR HO_6.out) (by decide)) hk (fun _ h => h.2)) (fun _ h => h.1)); replace BK339 := Aside0.mk (KeepBut.blk hk (g' := gb339) (o := .cells #[.int .i64 0, .int .i64 0, .int .i64 0, .int .i64 0, .int .i64 0] 25 (0, 0)) (upK BK339.out) NB339_340.out (by simp)); replace BK348 := Aside0.mk (KeepBut.blk hk (g' := gb348) (o := .cells #[.int .i64 t341, .int .i64 t342, .int .i64 t343, .int .i64 t344, .int .i64 t345] 25 (0, 0)) (upK BK348.out) NB348_340.out (by simp)); replace HB := Aside0.mk (hb); replace HI340 := Aside0.mk (hi); (try clear hb); (try clear hk); (try clear hi)) | ((with_reducible refine gate_builtin (b := .append) (xs := #[.tmp 20, .tmp 23]) rfl ?_); at_builtin; refine Kd.R_append k49 (w0 := w) w.heap.size rfl (.tmp 20) (.tmp 23) 57 49 (.agg #[(.int .i64 0), (.int .i64 0)]) 16 rfl Try.underlying57 info49 rfl (by decide) (by omega) u6 x6_1 (⟨t355, t356⟩ : S49) [.int .i64 t355, .int .i64 t356] (fun _ => True) (fun _ => False) rfl rfl ?aP (fun _ hk => hk.elim) ?aF ?aO ?aB ?aS ?aL ?_; (case aP => exact k49_mkM _ _ _ (⟨t355, t356⟩ : S49)); (case aB => exact (by repeat (first | (with_reducible first | exact HB.out | apply below_alloc | apply pw_below_drewN | apply below_drew1 | refine below_set ?_ (IsS81.ge HI340.out) | refine below_set ?_ GE339.out | refine below_set ?_ GE348.out) | exact HB.out))); (case aF => exact (fun _ _ => trivial)); (case aO => exact (upR HO_6.out)); (case aS => exact (below_size (by repeat (first | (with_reducible first | exact HB.out | apply below_alloc | apply pw_below_drewN | apply below_drew1 | refine below_set ?_ (IsS81.ge HI340.out) | refine below_set ?_ GE339.out | refine below_set ?_ GE348.out) | exact HB.out)))); (case aL => have := LMc16.out; omega); intro v360 w18 ho hb hg hat; rw [← Ny359.out] at ho; have HO361 := Aside0.mk (ho); replace BK339 := Aside0.mk (blk_grown (g := gb339) (o := .cells #[.int .i64 0, .int .i64 0, .int .i64 0, .int .i64 0, .int .i64 0] 25 (0, 0)) (upK BK339.out) hg (Kd.R_ne HO_6.out BK339.out (by decide))); replace BK348 := Aside0.mk (blk_grown (g := gb348) (o := .cells #[.int .i64 t341, .int .i64 t342, .int .i64 t343, .int .i64 t344, .int .i64 t345] 25 (0, 0)) (upK BK348.out) hg (Kd.R_ne HO_6.out BK348.out (by decide))); replace HI340 := Aside0.mk (IsS81.grown (by repeat (first | (with_reducible first | exact HI340.out | apply IsS81.alloc | apply IsS81.drewN | apply IsS81.drew | apply IsS81.set_1 | apply IsS81.set_2 | refine IsS81.far ?_ NB340_339.out _ | refine IsS81.far ?_ NB340_348.out _) | exact HI340.out)) hg (IsS81.own_ne HI340.out HO_6.out (by decide))); replace HB := Aside0.mk (hb); clear HO_6; clear ho hb hg hat))
     go_roundg k1
     case measure => have := HK1.out; omega
     case rel => exact ⟨(y359), (wrap64 (x7_1 - 1)), (t357), (t358), rB, H', ⟨by have := HK1.out; omega⟩, ⟨upR HO361.out⟩, (aK BK339), (aK BK348), ⟨by repeat (first | (with_reducible first | exact HI340.out | apply IsS81.alloc | apply IsS81.drewN | apply IsS81.drew | apply IsS81.set_1 | apply IsS81.set_2 | refine IsS81.far ?_ NB340_339.out _ | refine IsS81.far ?_ NB340_348.out _) | exact HI340.out)⟩, ⟨by repeat (first | (with_reducible first | exact HB.out | apply below_alloc | apply pw_below_drewN | apply below_drew1 | refine below_set ?_ (IsS81.ge HI340.out) | refine below_set ?_ GE339.out | refine below_set ?_ GE348.out) | exact HB.out)⟩⟩
    ·rw [if_neg c16] at H
     exact absurd H (by simp)
   ·replace H := Option.bind_eq_some_iff.mp H
    obtain ⟨⟨t362, t363, t364⟩, A190, H⟩ := H
    replace H : (if t362 = true then (spec_DrawRunTrip.l1 k1 x6_1 l0 t363 t364 t341 t342 t343 t344 t345) else (some (t341, t342, t343, t344, t345, x6_1))) = some (r1, r2, r3, r4, r5, r6) := H
    have A19 := Aside0.mk A190
    clear A190
    rcases Bool.eq_false_or_eq_true t362 with rfl | rfl
    ·replace H := iT rfl H
     have H' := Aside0.mk H
     clear H
     go_wp2_with (first | ((with_reducible refine gate_callee (f := 64) rfl ?_); refine goesL_ (some 26) rfl rfl Try.func64 (by kernel_rfl) rfl #[.pointer (some ⟨gb340, 0, none⟩), .int .i64 24] rfl argsB ?_; (with_reducible refine (spec_l1Cur_one.calls gb340 l0 x341001_1 x341002_1 24 true t363 t364 w _ ?side1 ?side2 A19.out).mono ?_); (case side1 => repeat (first | (with_reducible first | exact HI340.out | apply IsS81.alloc | apply IsS81.drewN | apply IsS81.drew | apply IsS81.set_1 | apply IsS81.set_2 | refine IsS81.far ?_ NB340_339.out _ | refine IsS81.far ?_ NB340_348.out _) | exact HI340.out)); (case side2 => repeat (first | (with_reducible first | exact HB.out | apply below_alloc | apply pw_below_drewN | apply below_drew1 | refine below_set ?_ (IsS81.ge HI340.out) | refine below_set ?_ GE339.out | refine below_set ?_ GE348.out) | exact HB.out)); rintro e w21 ⟨rfl, hi, hb, hk⟩; refine ⟨_, rfl, ?_⟩; replace HO_6 := Aside0.mk (Kd.R_mono (Kd.R_keep (IsS81.apart (show IsS81 w _ gb340 l0 x341001_1 x341002_1 from by repeat (first | (with_reducible first | exact HI340.out | apply IsS81.alloc | apply IsS81.drewN | apply IsS81.drew | apply IsS81.set_1 | apply IsS81.set_2 | refine IsS81.far ?_ NB340_339.out _ | refine IsS81.far ?_ NB340_348.out _) | exact HI340.out)) (upR HO_6.out) (by decide)) hk (fun _ h => h.2)) (fun _ h => h.1)); replace BK339 := Aside0.mk (KeepBut.blk hk (g' := gb339) (o := .cells #[.int .i64 0, .int .i64 0, .int .i64 0, .int .i64 0, .int .i64 0] 25 (0, 0)) (upK BK339.out) NB339_340.out (by simp)); replace BK348 := Aside0.mk (KeepBut.blk hk (g' := gb348) (o := .cells #[.int .i64 t341, .int .i64 t342, .int .i64 t343, .int .i64 t344, .int .i64 t345] 25 (0, 0)) (upK BK348.out) NB348_340.out (by simp)); replace HB := Aside0.mk (hb); replace HI340 := Aside0.mk (hi); (try clear hb); (try clear hk); (try clear hi)))
     (try simp only [Act.put, List.setIfInBounds_toArray, List.set_cons_zero, List.set_cons_succ])
     go_loopg [6] k1 (fun kq v6 w' => ∃ (x6_2 : List (S49)) (x341001_2 x341002_2 : Int), Aside0 (spec_DrawRunTrip.l1 kq x6_2 l0 x341001_2 x341002_2 t341 t342 t343 t344 t345 = some (r1, r2, r3, r4, r5, r6)) ∧ Aside0 (kq ≤ k1) ∧ Aside0 (Kd.R k49 49 w' w.heap.size (fun _ => True) v6 x6_2) ∧ Aside0 (w'.heap[gb339]? = some (.cells #[.int .i64 0, .int .i64 0, .int .i64 0, .int .i64 0, .int .i64 0] 25 (0, 0))) ∧ Aside0 (w'.heap[gb348]? = some (.cells #[.int .i64 t341, .int .i64 t342, .int .i64 t343, .int .i64 t344, .int .i64 t345] 25 (0, 0))) ∧ Aside0 (IsS81 w w' gb340 l0 x341001_2 x341002_2) ∧ Aside0 (Below w.heap.size w w'))
     case atStart => exact ⟨(x6_1), (t363), (t364), H', ⟨Nat.le_refl _⟩, ⟨upR HO_6.out⟩, (aK BK339), (aK BK348), ⟨by repeat (first | (with_reducible first | exact HI340.out | apply IsS81.alloc | apply IsS81.drewN | apply IsS81.drew | apply IsS81.set_1 | apply IsS81.set_2 | refine IsS81.far ?_ NB340_339.out _ | refine IsS81.far ?_ NB340_348.out _) | exact HI340.out)⟩, ⟨by repeat (first | (with_reducible first | exact HB.out | apply below_alloc | apply pw_below_drewN | apply below_drew1 | refine below_set ?_ (IsS81.ge HI340.out) | refine below_set ?_ GE339.out | refine below_set ?_ GE348.out) | exact HB.out)⟩⟩
     case round =>
      clear H'
      try clear c14b0
      try clear hcz10_0
      try clear hcz10_1
      try clear hcz10_2
      try clear hcz10_3
      try clear hcz10_4
      try clear hfz10_0
      obtain ⟨x6_2, x341001_2, x341002_2, HA, HK2, HO_6, BK339, BK348, HI340, HB⟩ := hrel
      cases gk with
      | zero => exact absurd HA.out (by simp [spec_DrawRunTrip.l1])
      | succ k2 =>
       have H := HA.out
       clear HA
       simp only [spec_DrawRunTrip.l1] at H
       replace H := Option.bind_eq_some_iff.mp H
       obtain ⟨⟨t365, t366, t367⟩, A220, H⟩ := H
       replace H : (if (x6_2.length : Int) < (wrap64 (20 + t365)) then (if x6_2.length < 8796093022208 then (spec_DrawRunTrip.l1 k2 (x6_2 ++ [(⟨3, 1⟩ : S49)]) l0 t366 t367 t341 t342 t343 t344 t345) else (none)) else (some (t341, t342, t343, t344, t345, x6_2))) = some (r1, r2, r3, r4, r5, r6) := H
       have A22 := Aside0.mk A220
       clear A220
       replace H := ifD H
       rcases H with ⟨H, -, c23b0⟩ | ⟨H, -, c23b0⟩
       ·by_cases c24 : x6_2.length < 8796093022208
        ·rw [if_pos c24] at H
         have LMc24 := Aside0.mk c24
         clear c24
         obtain ⟨y368, hy368⟩ : ∃ y_ : List (S49), y_ = (x6_2 ++ [(⟨3, 1⟩ : S49)]) := ⟨_, rfl⟩
         replace H : (spec_DrawRunTrip.l1 k2 y368 l0 t366 t367 t341 t342 t343 t344 t345) = some (r1, r2, r3, r4, r5, r6) := by first | (rw [hy368]; with_reducible exact H) | (have H2_ := (Option.bind_some _ _).symm.trans H; rw [hy368]; with_reducible exact H2_) | (have H2_ := (Option.bind_some _ _).symm.trans H; with_reducible exact H2_) | with_reducible exact H | (rw [hy368]; exact H) | exact H
         have Ny368 := Aside0.mk hy368
         clear hy368
         have H' := Aside0.mk H
         clear H
         obtain ⟨Ao25, co25, eo25⟩ := Kd.R_slice HO_6.out
         subst eo25
         go_wp2_with (first | ((with_reducible refine gate_callee (f := 63) rfl ?_); refine goesL_ (some 30) rfl rfl Try.func63 (by kernel_rfl) rfl #[.pointer (some ⟨gb340, 0, none⟩), .int .i64 2] rfl argsB ?_; (with_reducible refine (spec_l1Cur_pick.calls gb340 l0 x341001_2 x341002_2 2 t365 t366 t367 w _ ?side1 ?side2 A22.out).mono ?_); (case side1 => repeat (first | (with_reducible first | exact HI340.out | apply IsS81.alloc | apply IsS81.drewN | apply IsS81.drew | apply IsS81.set_1 | apply IsS81.set_2 | refine IsS81.far ?_ NB340_339.out _ | refine IsS81.far ?_ NB340_348.out _) | exact HI340.out)); (case side2 => repeat (first | (with_reducible first | exact HB.out | apply below_alloc | apply pw_below_drewN | apply below_drew1 | refine below_set ?_ (IsS81.ge HI340.out) | refine below_set ?_ GE339.out | refine below_set ?_ GE348.out) | exact HB.out)); rintro e w26 ⟨rfl, hi, hb, hk⟩; refine ⟨_, rfl, ?_⟩; replace HO_6 := Aside0.mk (Kd.R_mono (Kd.R_keep (IsS81.apart (show IsS81 w _ gb340 l0 x341001_2 x341002_2 from by repeat (first | (with_reducible first | exact HI340.out | apply IsS81.alloc | apply IsS81.drewN | apply IsS81.drew | apply IsS81.set_1 | apply IsS81.set_2 | refine IsS81.far ?_ NB340_339.out _ | refine IsS81.far ?_ NB340_348.out _) | exact HI340.out)) (upR HO_6.out) (by decide)) hk (fun _ h => h.2)) (fun _ h => h.1)); replace BK339 := Aside0.mk (KeepBut.blk hk (g' := gb339) (o := .cells #[.int .i64 0, .int .i64 0, .int .i64 0, .int .i64 0, .int .i64 0] 25 (0, 0)) (upK BK339.out) NB339_340.out (by simp)); replace BK348 := Aside0.mk (KeepBut.blk hk (g' := gb348) (o := .cells #[.int .i64 t341, .int .i64 t342, .int .i64 t343, .int .i64 t344, .int .i64 t345] 25 (0, 0)) (upK BK348.out) NB348_340.out (by simp)); replace HB := Aside0.mk (hb); replace HI340 := Aside0.mk (hi); (try clear hb); (try clear hk); (try clear hi)) | ((with_reducible refine gate_builtin (b := .append) (xs := #[.tmp 33, .tmp 35]) rfl ?_); at_builtin; refine Kd.R_append k49 (w0 := w) w.heap.size rfl (.tmp 33) (.tmp 35) 57 49 (.agg #[(.int .i64 0), (.int .i64 0)]) 16 rfl Try.underlying57 info49 rfl (by decide) (by omega) (.slice Ao25 x6_2.length co25) x6_2 (⟨3, 1⟩ : S49) [.int .i64 3, .int .i64 1] (fun _ => True) (fun _ => False) rfl rfl ?aP (fun _ hk => hk.elim) ?aF ?aO ?aB ?aS ?aL ?_; (case aP => exact k49_mkM _ _ _ (⟨3, 1⟩ : S49)); (case aB => exact (by repeat (first | (with_reducible first | exact HB.out | apply below_alloc | apply pw_below_drewN | apply below_drew1 | refine below_set ?_ (IsS81.ge HI340.out) | refine below_set ?_ GE339.out | refine below_set ?_ GE348.out) | exact HB.out))); (case aF => exact (fun _ _ => trivial)); (case aO => exact (upR HO_6.out)); (case aS => exact (below_size (by repeat (first | (with_reducible first | exact HB.out | apply below_alloc | apply pw_below_drewN | apply below_drew1 | refine below_set ?_ (IsS81.ge HI340.out) | refine below_set ?_ GE339.out | refine below_set ?_ GE348.out) | exact HB.out)))); (case aL => have := LMc24.out; omega); intro v369 w27 ho hb hg hat; rw [← Ny368.out] at ho; have HO370 := Aside0.mk (ho); replace BK339 := Aside0.mk (blk_grown (g := gb339) (o := .cells #[.int .i64 0, .int .i64 0, .int .i64 0, .int .i64 0, .int .i64 0] 25 (0, 0)) (upK BK339.out) hg (Kd.R_ne HO_6.out BK339.out (by decide))); replace BK348 := Aside0.mk (blk_grown (g := gb348) (o := .cells #[.int .i64 t341, .int .i64 t342, .int .i64 t343, .int .i64 t344, .int .i64 t345] 25 (0, 0)) (upK BK348.out) hg (Kd.R_ne HO_6.out BK348.out (by decide))); replace HI340 := Aside0.mk (IsS81.grown (by repeat (first | (with_reducible first | exact HI340.out | apply IsS81.alloc | apply IsS81.drewN | apply IsS81.drew | apply IsS81.set_1 | apply IsS81.set_2 | refine IsS81.far ?_ NB340_339.out _ | refine IsS81.far ?_ NB340_348.out _) | exact HI340.out)) hg (IsS81.own_ne HI340.out HO_6.out (by decide))); replace HB := Aside0.mk (hb); clear HO_6; clear ho hb hg hat))
         go_roundg k2
         case measure => have := HK1.out; have := HK2.out; omega
         case rel => exact ⟨(y368), (t366), (t367), H', ⟨by have := HK1.out; have := HK2.out; omega⟩, ⟨upR HO370.out⟩, (aK BK339), (aK BK348), ⟨by repeat (first | (with_reducible first | exact HI340.out | apply IsS81.alloc | apply IsS81.drewN | apply IsS81.drew | apply IsS81.set_1 | apply IsS81.set_2 | refine IsS81.far ?_ NB340_339.out _ | refine IsS81.far ?_ NB340_348.out _) | exact HI340.out)⟩, ⟨by repeat (first | (with_reducible first | exact HB.out | apply below_alloc | apply pw_below_drewN | apply below_drew1 | refine below_set ?_ (IsS81.ge HI340.out) | refine below_set ?_ GE339.out | refine below_set ?_ GE348.out) | exact HB.out)⟩⟩
        ·rw [if_neg c24] at H
         exact absurd H (by simp)
       ·simp only [Option.some.injEq, Prod.mk.injEq] at H
        obtain ⟨rfl, rfl, rfl, rfl, rfl, rfl⟩ := H
        obtain ⟨Ao28, co28, eo28⟩ := Kd.R_slice HO_6.out
        subst eo28
        go_wp2_with (first | ((with_reducible refine gate_callee (f := 63) rfl ?_); refine goesL_ (some 30) rfl rfl Try.func63 (by kernel_rfl) rfl #[.pointer (some ⟨gb340, 0, none⟩), .int .i64 2] rfl argsB ?_; (with_reducible refine (spec_l1Cur_pick.calls gb340 l0 x341001_2 x341002_2 2 t365 t366 t367 w _ ?side1 ?side2 A22.out).mono ?_); (case side1 => repeat (first | (with_reducible first | exact HI340.out | apply IsS81.alloc | apply IsS81.drewN | apply IsS81.drew | apply IsS81.set_1 | apply IsS81.set_2 | refine IsS81.far ?_ NB340_339.out _ | refine IsS81.far ?_ NB340_348.out _) | exact HI340.out)); (case side2 => repeat (first | (with_reducible first | exact HB.out | apply below_alloc | apply pw_below_drewN | apply below_drew1 | refine below_set ?_ (IsS81.ge HI340.out) | refine below_set ?_ GE339.out | refine below_set ?_ GE348.out) | exact HB.out)); rintro e w29 ⟨rfl, hi, hb, hk⟩; refine ⟨_, rfl, ?_⟩; replace HO_6 := Aside0.mk (Kd.R_mono (Kd.R_keep (IsS81.apart (show IsS81 w _ gb340 l0 x341001_2 x341002_2 from by repeat (first | (with_reducible first | exact HI340.out | apply IsS81.alloc | apply IsS81.drewN | apply IsS81.drew | apply IsS81.set_1 | apply IsS81.set_2 | refine IsS81.far ?_ NB340_339.out _ | refine IsS81.far ?_ NB340_348.out _) | exact HI340.out)) (upR HO_6.out) (by decide)) hk (fun _ h => h.2)) (fun _ h => h.1)); replace BK339 := Aside0.mk (KeepBut.blk hk (g' := gb339) (o := .cells #[.int .i64 0, .int .i64 0, .int .i64 0, .int .i64 0, .int .i64 0] 25 (0, 0)) (upK BK339.out) NB339_340.out (by simp)); replace BK348 := Aside0.mk (KeepBut.blk hk (g' := gb348) (o := .cells #[.int .i64 t341, .int .i64 t342, .int .i64 t343, .int .i64 t344, .int .i64 t345] 25 (0, 0)) (upK BK348.out) NB348_340.out (by simp)); replace HB := Aside0.mk (hb); replace HI340 := Aside0.mk (hi); (try clear hb); (try clear hk); (try clear hi); have hnb30 := NB348_339.out; have hnc30 := NB339_348.out; have hnb31 := NB348_340.out; have hnc31 := NB340_348.out; have ⟨hcz32_0, hcz32_1, hcz32_2, hcz32_3, hcz32_4, hfz32_0⟩ := cz5 BK348; have hnb33 := NB339_340.out; have hnc33 := NB340_339.out; have ⟨hcz34_0, hcz34_1, hcz34_2, hcz34_3, hcz34_4, hfz34_0⟩ := cz5 BK339))
        refine bodyPost_ret (results_ct rfl _ _ gb339 25 #[.int .i64 t341, .int .i64 t342, .int .i64 t343, .int .i64 t344, .int .i64 t345] (0, 0) _ rfl (by exact pW BK339) Try.underlying25 rfl (by kernel_rfl)) rfl ?_
        exact ⟨_, eB, by (with_reducible repeat (first | apply Kd.R_alloc | apply Kd.R_drewN | apply Kd.R_drew)); exact Kd.R_mono (Kd.R_far (p := ⟨gb339, 4, none⟩) (Kd.R_far (p := ⟨gb339, 3, none⟩) (Kd.R_far (p := ⟨gb339, 2, none⟩) (Kd.R_far (p := ⟨gb339, 1, none⟩) (Kd.R_far (p := ⟨gb339, 0, none⟩) (Kd.R_types HO_6.out BK339.out (by decide)) (fun _ hk => hk.2) (.int .i64 t341)) (fun _ hk => hk.2) (.int .i64 t342)) (fun _ hk => hk.2) (.int .i64 t343)) (fun _ hk => hk.2) (.int .i64 t344)) (fun _ hk => hk.2) (.int .i64 t345)) (fun _ hk => trivial), by repeat (first | (with_reducible first | exact HB.out | apply below_alloc | apply pw_below_drewN | apply below_drew1 | refine below_set ?_ (IsS81.ge HI340.out) | refine below_set ?_ GE339.out | refine below_set ?_ GE348.out) | exact HB.out)⟩
    ·replace H := iF (by decide) H
     simp only [Option.some.injEq, Prod.mk.injEq] at H
     obtain ⟨rfl, rfl, rfl, rfl, rfl, rfl⟩ := H
     go_wp2_with (first | ((with_reducible refine gate_callee (f := 64) rfl ?_); refine goesL_ (some 26) rfl rfl Try.func64 (by kernel_rfl) rfl #[.pointer (some ⟨gb340, 0, none⟩), .int .i64 24] rfl argsB ?_; (with_reducible refine (spec_l1Cur_one.calls gb340 l0 x341001_1 x341002_1 24 false t363 t364 w _ ?side1 ?side2 A19.out).mono ?_); (case side1 => repeat (first | (with_reducible first | exact HI340.out | apply IsS81.alloc | apply IsS81.drewN | apply IsS81.drew | apply IsS81.set_1 | apply IsS81.set_2 | refine IsS81.far ?_ NB340_339.out _ | refine IsS81.far ?_ NB340_348.out _) | exact HI340.out)); (case side2 => repeat (first | (with_reducible first | exact HB.out | apply below_alloc | apply pw_below_drewN | apply below_drew1 | refine below_set ?_ (IsS81.ge HI340.out) | refine below_set ?_ GE339.out | refine below_set ?_ GE348.out) | exact HB.out)); rintro e w35 ⟨rfl, hi, hb, hk⟩; refine ⟨_, rfl, ?_⟩; replace HO_6 := Aside0.mk (Kd.R_mono (Kd.R_keep (IsS81.apart (show IsS81 w _ gb340 l0 x341001_1 x341002_1 from by repeat (first | (with_reducible first | exact HI340.out | apply IsS81.alloc | apply IsS81.drewN | apply IsS81.drew | apply IsS81.set_1 | apply IsS81.set_2 | refine IsS81.far ?_ NB340_339.out _ | refine IsS81.far ?_ NB340_348.out _) | exact HI340.out)) (upR HO_6.out) (by decide)) hk (fun _ h => h.2)) (fun _ h => h.1)); replace BK339 := Aside0.mk (KeepBut.blk hk (g' := gb339) (o := .cells #[.int .i64 0, .int .i64 0, .int .i64 0, .int .i64 0, .int .i64 0] 25 (0, 0)) (upK BK339.out) NB339_340.out (by simp)); replace BK348 := Aside0.mk (KeepBut.blk hk (g' := gb348) (o := .cells #[.int .i64 t341, .int .i64 t342, .int .i64 t343, .int .i64 t344, .int .i64 t345] 25 (0, 0)) (upK BK348.out) NB348_340.out (by simp)); replace HB := Aside0.mk (hb); replace HI340 := Aside0.mk (hi); (try clear hb); (try clear hk); (try clear hi); have hnb36 := NB348_339.out; have hnc36 := NB339_348.out; have hnb37 := NB348_340.out; have hnc37 := NB340_348.out; have ⟨hcz38_0, hcz38_1, hcz38_2, hcz38_3, hcz38_4, hfz38_0⟩ := cz5 BK348; have hnb39 := NB339_340.out; have hnc39 := NB340_339.out; have ⟨hcz40_0, hcz40_1, hcz40_2, hcz40_3, hcz40_4, hfz40_0⟩ := cz5 BK339))
     refine bodyPost_ret (results_ct rfl _ _ gb339 25 #[.int .i64 t341, .int .i64 t342, .int .i64 t343, .int .i64 t344, .int .i64 t345] (0, 0) _ rfl (by exact pW BK339) Try.underlying25 rfl (by kernel_rfl)) rfl ?_
     exact ⟨_, eB, by (with_reducible repeat (first | apply Kd.R_alloc | apply Kd.R_drewN | apply Kd.R_drew)); exact Kd.R_mono (Kd.R_far (p := ⟨gb339, 4, none⟩) (Kd.R_far (p := ⟨gb339, 3, none⟩) (Kd.R_far (p := ⟨gb339, 2, none⟩) (Kd.R_far (p := ⟨gb339, 1, none⟩) (Kd.R_far (p := ⟨gb339, 0, none⟩) (Kd.R_types HO_6.out BK339.out (by decide)) (fun _ hk => hk.2) (.int .i64 t341)) (fun _ hk => hk.2) (.int .i64 t342)) (fun _ hk => hk.2) (.int .i64 t343)) (fun _ hk => hk.2) (.int .i64 t344)) (fun _ hk => hk.2) (.int .i64 t345)) (fun _ hk => trivial), by repeat (first | (with_reducible first | exact HB.out | apply below_alloc | apply pw_below_drewN | apply below_drew1 | refine below_set ?_ (IsS81.ge HI340.out) | refine below_set ?_ GE339.out | refine below_set ?_ GE348.out) | exact HB.out)⟩

/-! ### spec_DrawIsTrip: function 65 -/
def spec_DrawIsTrip.f (k : Nat) (l0 : List Int) : Option (Int × Int × Int × Int × Int) := (spec_l1Cur_trip.f k l0 0 0).bind fun bt373 => (some (bt373.1, bt373.2.1, bt373.2.2.1, bt373.2.2.2.1, bt373.2.2.2.2.1))
theorem spec_DrawIsTrip.mono : ∀ a0 k, LeO (spec_DrawIsTrip.f k a0) (spec_DrawIsTrip.f (k + 1) a0) := by
 intro a0 k
 unfold spec_DrawIsTrip.f
 repeat' with_reducible first | apply spec_l1Cur_trip.mono | exact LeO.refl _ | exact LeO.none _ | refine LeO.ite ?_ ?_ | refine LeO.bind ?_ (fun _ => ?_)
set_option maxHeartbeats 8000000 in
set_option maxRecDepth 100000 in
theorem spec_DrawIsTrip.calls (k : Nat) (A0 : Option Addr) (c0 : Nat) (l0 : List Int) (r1 r2 r3 r4 r5 : Int) (w : World) (hr0 : Kd.C (Kd.int .u8) w A0 l0.length l0) (hc0 : l0.length ≤ c0) (h : spec_DrawIsTrip.f k l0 = some (r1, r2, r3, r4, r5)) :
  Calls Try.prog 65 #[.slice A0 l0.length c0] w fun e w' => e = .returned (.agg #[.int .i64 r1, .int .i64 r2, .int .i64 r3, .int .i64 r4, .int .i64 r5]) ∧ Below w.heap.size w w' := by
 have hu25 := Try.underlying25
 have hu81 := Try.underlying81
 have HR0 := Aside0.mk hr0
 have HC0 := Aside0.mk hc0
 clear hr0 hc0
 have HB := Aside0.mk (Below.refl w.heap.size w)
 have H := h
 clear h
 unfold spec_DrawIsTrip.f at H
 replace H := Option.bind_eq_some_iff.mp H
 obtain ⟨⟨t373, t374, t375, t376, t377, t378, t379⟩, A20, H⟩ := H
 replace H : (some (t373, t374, t375, t376, t377)) = some (r1, r2, r3, r4, r5) := H
 have A2 := Aside0.mk A20
 clear A20
 simp only [Option.some.injEq, Prod.mk.injEq] at H
 obtain ⟨rfl, rfl, rfl, rfl, rfl⟩ := H
 go_enter Try.func65, Try.ntmps65
 go_wp2_with (first | ((with_reducible refine gD 2 ?_); refine bxE 2 25 #[.int .i64 0, .int .i64 0, .int .i64 0, .int .i64 0, .int .i64 0] fun gb371 w3 hg hbox hb => ?_; have BK371 := Aside0.mk hbox; have GE371 := gB HB hg; replace HB := uB HB hb; clear hb hbox hg) | ((with_reducible refine gD 6 ?_); refine bxE 6 81 #[.slice A0 l0.length c0, .int .i64 0, .int .u64 0] fun gb372 w4 hg hbox hb => ?_; have GE372 := gB HB hg; have ⟨NB371_372, NB372_371⟩ := nB BK371 hg; have HI372 := Aside0.mk ((⟨_, _, hbox, (by rw [hg]; exact (below_size (bW HB)) : w.heap.size ≤ gb372), HR0.out⟩ : IsS81 w w4 gb372 l0 0 0)); replace BK371 := uK BK371 hb; replace HB := uB HB hb; clear hb hbox hg) | ((with_reducible refine gate_callee (f := 61) rfl ?_); refine goesL_ (some 8) rfl rfl Try.func61 (by kernel_rfl) rfl #[.pointer (some ⟨gb372, 0, none⟩)] rfl argsB ?_; (with_reducible refine (spec_l1Cur_trip.calls k gb372 l0 0 0 t373 t374 t375 t376 t377 t378 t379 w _ ?side1 ?side2 A2.out).mono ?_); (case side1 => repeat (first | (with_reducible first | exact HI372.out | apply IsS81.alloc | apply IsS81.drewN | apply IsS81.drew | apply IsS81.set_1 | apply IsS81.set_2 | refine IsS81.far ?_ NB372_371.out _) | exact HI372.out)); (case side2 => repeat (first | (with_reducible first | exact HB.out | apply below_alloc | apply pw_below_drewN | apply below_drew1 | refine below_set ?_ (IsS81.ge HI372.out) | refine below_set ?_ GE371.out) | exact HB.out)); rintro e w5 ⟨rfl, hi, hb, hk⟩; refine ⟨_, rfl, ?_⟩; replace BK371 := Aside0.mk (KeepBut.blk hk (g' := gb371) (o := .cells #[.int .i64 0, .int .i64 0, .int .i64 0, .int .i64 0, .int .i64 0] 25 (0, 0)) (upK BK371.out) NB371_372.out (by simp)); replace HB := Aside0.mk (hb); replace HI372 := Aside0.mk (hi); (try clear hb); (try clear hk); (try clear hi); have hnb6 := NB371_372.out; have hnc6 := NB372_371.out; have ⟨hcz7_0, hcz7_1, hcz7_2, hcz7_3, hcz7_4, hfz7_0⟩ := cz5 BK371))
 refine bodyPost_ret (results_cell_row rfl _ _ gb371 25 #[.int .i64 t373, .int .i64 t374, .int .i64 t375, .int .i64 t376, .int .i64 t377] (0, 0) _ rfl (by exact pW BK371) Try.underlying25 rfl (by kernel_rfl)) rfl ?_
 exact ⟨eB, by repeat (first | (with_reducible first | exact HB.out | apply below_alloc | apply pw_below_drewN | apply below_drew1 | refine below_set ?_ (IsS81.ge HI372.out) | refine below_set ?_ GE371.out) | exact HB.out)⟩

/-! ### spec_DrawNextKinds: function 42 -/
def spec_DrawNextKinds.f (k : Nat) (l0 : List Int) : Option (Int × Int × Int × Int × Int) := (spec_DrawIsTrip.f k l0).bind fun bt381 => (some (bt381.1, bt381.2.1, bt381.2.2.1, bt381.2.2.2.1, bt381.2.2.2.2))
theorem spec_DrawNextKinds.mono : ∀ a0 k, LeO (spec_DrawNextKinds.f k a0) (spec_DrawNextKinds.f (k + 1) a0) := by
 intro a0 k
 unfold spec_DrawNextKinds.f
 repeat' with_reducible first | apply spec_DrawIsTrip.mono | exact LeO.refl _ | exact LeO.none _ | refine LeO.ite ?_ ?_ | refine LeO.bind ?_ (fun _ => ?_)
set_option maxHeartbeats 8000000 in
set_option maxRecDepth 100000 in
theorem spec_DrawNextKinds.calls (k : Nat) (A0 : Option Addr) (c0 : Nat) (l0 : List Int) (r1 r2 r3 r4 r5 : Int) (w : World) (hr0 : Kd.C (Kd.int .u8) w A0 l0.length l0) (hc0 : l0.length ≤ c0) (h : spec_DrawNextKinds.f k l0 = some (r1, r2, r3, r4, r5)) :
  Calls Try.prog 42 #[.slice A0 l0.length c0] w fun e w' => e = .returned (.agg #[.int .i64 r1, .int .i64 r2, .int .i64 r3, .int .i64 r4, .int .i64 r5]) ∧ Below w.heap.size w w' := by
 have hu25 := Try.underlying25
 have HR0 := Aside0.mk hr0
 have HC0 := Aside0.mk hc0
 clear hr0 hc0
 have HB := Aside0.mk (Below.refl w.heap.size w)
 have H := h
 clear h
 unfold spec_DrawNextKinds.f at H
 replace H := Option.bind_eq_some_iff.mp H
 obtain ⟨⟨t381, t382, t383, t384, t385⟩, A20, H⟩ := H
 replace H : (some (t381, t382, t383, t384, t385)) = some (r1, r2, r3, r4, r5) := H
 have A2 := Aside0.mk A20
 clear A20
 simp only [Option.some.injEq, Prod.mk.injEq] at H
 obtain ⟨rfl, rfl, rfl, rfl, rfl⟩ := H
 go_enter Try.func42, Try.ntmps42
 go_wp2_with (first | ((with_reducible refine gD 2 ?_); refine bxE 2 25 #[.int .i64 0, .int .i64 0, .int .i64 0, .int .i64 0, .int .i64 0] fun gb380 w3 hg hbox hb => ?_; have BK380 := Aside0.mk hbox; have GE380 := gB HB hg; replace HB := uB HB hb; clear hb hbox hg) | ((with_reducible refine gC 65 ?_); refine lA (some 4) Try.func65 (spec_DrawIsTrip.calls k _ _ l0 t381 t382 t383 t384 t385 _ ?side1 ?side2 A2.out) ?_; (case side1 => repeat (first | exact (Kd.C_below HR0.out HB.out) | (with_reducible refine Kd.C_alloc ?_ _) | (with_reducible refine Kd.C_drewN ?_ _) | (with_reducible refine Kd.C_drew ?_))); (case side2 => exact HC0.out); intro w4 hb; replace BK380 := uK BK380 hb; replace HB := uB HB hb; (try clear hb); have ⟨hcz5_0, hcz5_1, hcz5_2, hcz5_3, hcz5_4, hfz5_0⟩ := cz5 BK380))
 refine bodyPost_ret (results_cell_row rfl _ _ gb380 25 #[.int .i64 t381, .int .i64 t382, .int .i64 t383, .int .i64 t384, .int .i64 t385] (0, 0) _ rfl (by exact pW BK380) Try.underlying25 rfl (by kernel_rfl)) rfl ?_
 exact ⟨eB, (bW HB)⟩

/-! ### laws_vInts: function 43 -/
def laws_vInts.l0 : Nat → List Int → List Int → Int → Option (Bool)
 | 0, _, _, _ => none
 | k + 1, x0, x1, x5 => if x5 < (x0.length : Int) then (if 0 ≤ x5 then (if x5 < (x1.length : Int) then (if (rd x0 x5) = (rd x1 x5) then (laws_vInts.l0 k x0 x1 (wrap64 (x5 + 1))) else (some false)) else (none)) else (none)) else (some true)
def laws_vInts.f (k : Nat) (l0 : List Int) (l1 : List Int) : Option (Bool) := if (l0.length : Int) = (l1.length : Int) then (laws_vInts.l0 k l0 l1 0) else (some false)
theorem laws_vInts.mono_l : ∀ k, (∀ y0 y1 y2, LeO (laws_vInts.l0 k y0 y1 y2) (laws_vInts.l0 (k + 1) y0 y1 y2))
 | 0 => fun _ _ _ r h => by simp [laws_vInts.l0] at h
 | k + 1 => by
  have ih0 := laws_vInts.mono_l k
  ·intro y0 y1 y2
   unfold laws_vInts.l0
   repeat' with_reducible first | apply ih0 | exact LeO.refl _ | exact LeO.none _ | refine LeO.ite ?_ ?_ | refine LeO.bind ?_ (fun _ => ?_)
theorem laws_vInts.mono : ∀ a0 a1 k, LeO (laws_vInts.f k a0 a1) (laws_vInts.f (k + 1) a0 a1) := by
 intro a0 a1 k
 have ih0 := laws_vInts.mono_l k
 unfold laws_vInts.f
 repeat' with_reducible first | apply ih0 | exact LeO.refl _ | exact LeO.none _ | refine LeO.ite ?_ ?_ | refine LeO.bind ?_ (fun _ => ?_)
set_option maxHeartbeats 8000000 in
set_option maxRecDepth 100000 in
theorem laws_vInts.calls (k : Nat) (A0 : Option Addr) (c0 : Nat) (l0 : List Int) (A1 : Option Addr) (c1 : Nat) (l1 : List Int) (r : Bool) (w : World) (hr0 : Kd.C (Kd.int .i64) w A0 l0.length l0) (hc0 : l0.length ≤ c0) (hr1 : Kd.C (Kd.int .i64) w A1 l1.length l1) (hc1 : l1.length ≤ c1) (h : laws_vInts.f k l0 l1 = some r) :
  Calls Try.prog 43 #[.slice A0 l0.length c0, .slice A1 l1.length c1] w fun e w' => e = .returned (.bool r) ∧ Drawn0 w w' := by
 have HR0 := Aside0.mk hr0
 have HC0 := Aside0.mk hc0
 clear hr0 hc0
 have HR1 := Aside0.mk hr1
 have HC1 := Aside0.mk hc1
 clear hr1 hc1
 have H := h
 clear h
 unfold laws_vInts.f at H
 replace H := ifI H
 rcases H with ⟨H, c3, c3b0, c3b1⟩ | ⟨H, c3, c3b0, c3b1⟩
 ·have c3b2 : (l0.length == l1.length) = true := by first | simpa using c3 | (simp at c3 ⊢; omega)
  clear c3
  have H' := Aside0.mk H
  clear H
  go_enter Try.func43, Try.ntmps43
  go_wp2
  repeat (go_quiet (fail); try go_wp2)
  go_loopg [5] k (fun kq v5 w' => ∃ (x5_1 : Int), v5 = .int .i64 x5_1 ∧ Aside0 (laws_vInts.l0 kq l0 l1 x5_1 = some r) ∧ Aside0 (kq ≤ k) ∧ Drawn0 w w')
  case atStart => exact ⟨(0), rB, H', ⟨Nat.le_refl _⟩, by repeat (first | exact Drawn0.refl _ | apply Drawn0.step)⟩
  case round =>
   clear H'
   try clear c1
   try clear c3
   try clear c3b0
   try clear c3b1
   try clear c3b2
   obtain ⟨x5_1, rfl, HA, HK1, ⟨m1, rfl⟩⟩ := hrel
   cases gk with
   | zero => exact absurd HA.out (by simp [laws_vInts.l0])
   | succ k1 =>
    have H := HA.out
    clear HA
    simp only [laws_vInts.l0] at H
    replace H := ifD H
    rcases H with ⟨H, -, c4b0⟩ | ⟨H, -, c4b0⟩
    ·by_cases c5 : 0 ≤ x5_1
     ·rw [if_pos c5] at H
      have c5b0 : decide (0 ≤ x5_1) = true := decide_eq_true c5
      clear c5
      by_cases c6 : x5_1 < (l1.length : Int)
      ·rw [if_pos c6] at H
       have c6b0 : decide (x5_1 < (l1.length : Int)) = true := decide_eq_true c6
       clear c6
       replace H := ifI H
       rcases H with ⟨H, -, c7b0, c7b1⟩ | ⟨H, c7, c7b0, c7b1⟩
       ·have H' := Aside0.mk H
        clear H
        have p386 : 0 ≤ (x5_1 : Int) := of_decide_eq_true asmB
        have q386 : x5_1 < (l0.length : Int) := of_decide_eq_true asmB
        obtain ⟨ad386, e386, hx386_0⟩ := Kd.at_int HR0.out x5_1 p386 q386
        cases e386
        replace p386 := eq_true p386
        replace q386 := eq_true q386
        have p387 : 0 ≤ (x5_1 : Int) := of_decide_eq_true asmB
        have q387 : x5_1 < (l1.length : Int) := of_decide_eq_true asmB
        obtain ⟨ad387, e387, hx387_0⟩ := Kd.at_int HR1.out x5_1 p387 q387
        cases e387
        replace p387 := eq_true p387
        replace q387 := eq_true q387
        go_wp2
        repeat (go_quiet (fail); try go_wp2)
        go_roundg k1
        case measure => have := HK1.out; omega
        case rel => exact ⟨(wrap64 (x5_1 + 1)), rB, H', ⟨by have := HK1.out; omega⟩, by repeat (first | exact Drawn0.refl _ | apply Drawn0.step)⟩
       ·obtain rfl := Option.some.inj H
        have p386 : 0 ≤ (x5_1 : Int) := of_decide_eq_true asmB
        have q386 : x5_1 < (l0.length : Int) := of_decide_eq_true asmB
        obtain ⟨ad386, e386, hx386_0⟩ := Kd.at_int HR0.out x5_1 p386 q386
        cases e386
        replace p386 := eq_true p386
        replace q386 := eq_true q386
        have p387 : 0 ≤ (x5_1 : Int) := of_decide_eq_true asmB
        have q387 : x5_1 < (l1.length : Int) := of_decide_eq_true asmB
        obtain ⟨ad387, e387, hx387_0⟩ := Kd.at_int HR1.out x5_1 p387 q387
        cases e387
        replace p387 := eq_true p387
        replace q387 := eq_true q387
        go_wp2
        repeat (go_quiet (fail); try go_wp2)
        go_ret
        exact ⟨rB, by repeat (first | exact Drawn0.refl _ | apply Drawn0.step)⟩
      ·rw [if_neg c6] at H
       exact absurd H (by simp)
     ·rw [if_neg c5] at H
      exact absurd H (by simp)
    ·obtain rfl := Option.some.inj H
     go_wp2
     repeat (go_quiet (fail); try go_wp2)
     go_ret
     exact ⟨rB, by repeat (first | exact Drawn0.refl _ | apply Drawn0.step)⟩
 ·have c3b2 : (l0.length == l1.length) = false := by first | simpa using c3 | (simp at c3 ⊢; omega)
  obtain rfl := Option.some.inj H
  go_enter Try.func43, Try.ntmps43
  go_wp2
  repeat (go_quiet (fail); try go_wp2)
  go_ret
  exact ⟨rB, by repeat (first | exact Drawn0.refl _ | apply Drawn0.step)⟩

/-! ### spec_DrawTimeLeft: function 44 -/
def spec_DrawTimeLeft.f (k : Nat) (l0 : List Int) : Option (Int × Int × Int × Int × Int) := (spec_DrawIsTrip.f k l0).bind fun bt389 => (some (bt389.1, bt389.2.1, bt389.2.2.1, bt389.2.2.2.1, bt389.2.2.2.2))
theorem spec_DrawTimeLeft.mono : ∀ a0 k, LeO (spec_DrawTimeLeft.f k a0) (spec_DrawTimeLeft.f (k + 1) a0) := by
 intro a0 k
 unfold spec_DrawTimeLeft.f
 repeat' with_reducible first | apply spec_DrawIsTrip.mono | exact LeO.refl _ | exact LeO.none _ | refine LeO.ite ?_ ?_ | refine LeO.bind ?_ (fun _ => ?_)
set_option maxHeartbeats 8000000 in
set_option maxRecDepth 100000 in
theorem spec_DrawTimeLeft.calls (k : Nat) (A0 : Option Addr) (c0 : Nat) (l0 : List Int) (r1 r2 r3 r4 r5 : Int) (w : World) (hr0 : Kd.C (Kd.int .u8) w A0 l0.length l0) (hc0 : l0.length ≤ c0) (h : spec_DrawTimeLeft.f k l0 = some (r1, r2, r3, r4, r5)) :
  Calls Try.prog 44 #[.slice A0 l0.length c0] w fun e w' => e = .returned (.agg #[.int .i64 r1, .int .i64 r2, .int .i64 r3, .int .i64 r4, .int .i64 r5]) ∧ Below w.heap.size w w' := by
 have hu25 := Try.underlying25
 have HR0 := Aside0.mk hr0
 have HC0 := Aside0.mk hc0
 clear hr0 hc0
 have HB := Aside0.mk (Below.refl w.heap.size w)
 have H := h
 clear h
 unfold spec_DrawTimeLeft.f at H
 replace H := Option.bind_eq_some_iff.mp H
 obtain ⟨⟨t389, t390, t391, t392, t393⟩, A20, H⟩ := H
 replace H : (some (t389, t390, t391, t392, t393)) = some (r1, r2, r3, r4, r5) := H
 have A2 := Aside0.mk A20
 clear A20
 simp only [Option.some.injEq, Prod.mk.injEq] at H
 obtain ⟨rfl, rfl, rfl, rfl, rfl⟩ := H
 go_enter Try.func44, Try.ntmps44
 go_wp2_with (first | ((with_reducible refine gD 2 ?_); refine bxE 2 25 #[.int .i64 0, .int .i64 0, .int .i64 0, .int .i64 0, .int .i64 0] fun gb388 w3 hg hbox hb => ?_; have BK388 := Aside0.mk hbox; have GE388 := gB HB hg; replace HB := uB HB hb; clear hb hbox hg) | ((with_reducible refine gC 65 ?_); refine lA (some 4) Try.func65 (spec_DrawIsTrip.calls k _ _ l0 t389 t390 t391 t392 t393 _ ?side1 ?side2 A2.out) ?_; (case side1 => repeat (first | exact (Kd.C_below HR0.out HB.out) | (with_reducible refine Kd.C_alloc ?_ _) | (with_reducible refine Kd.C_drewN ?_ _) | (with_reducible refine Kd.C_drew ?_))); (case side2 => exact HC0.out); intro w4 hb; replace BK388 := uK BK388 hb; replace HB := uB HB hb; (try clear hb); have ⟨hcz5_0, hcz5_1, hcz5_2, hcz5_3, hcz5_4, hfz5_0⟩ := cz5 BK388))
 refine bodyPost_ret (results_cell_row rfl _ _ gb388 25 #[.int .i64 t389, .int .i64 t390, .int .i64 t391, .int .i64 t392, .int .i64 t393] (0, 0) _ rfl (by exact pW BK388) Try.underlying25 rfl (by kernel_rfl)) rfl ?_
 exact ⟨eB, (bW HB)⟩

end Go.Proofs.Ytmeaacbnjpgepaa.QFnTrips
