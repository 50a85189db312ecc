/- Contracts of Go functions that FnPermitDays reaches: the call computes what the plain function says. No condition. -/
import Derived.Test.YtgeioccfjgpijaaDoorQFnPermitDaysx0
import Derived.Test.YtgeioccfjgpijaaDoorQFnPermitDaysx9
namespace Go.Proofs.YtgeioccfjgpijaaDoor.QFnPermitDays
open Go.RowKit Go.Proofs.YtgeioccfjgpijaaDoorW.PrintWords Go.Proofs.YtgeioccfjgpijaaDoorW.PrintLast Go.Proofs.YtgeioccfjgpijaaDoorW.PrintMore
attribute [local go_sem] max2_int min2_int max_two min_two max_three min_three max_four min_four   -- for this text's walks alone
set_option linter.unusedVariables false
set_option linter.unusedSimpArgs false

/-! ### spec_l1Cur_day22: function 84 -/
def spec_l1Cur_day22.f (s0_0 : List Int) (s0_1 s0_2 : Int) : Option (Int × Int × Int) := (some (([0, 3, 4, 10, 14, 20, 999, (-1), 1000] : List Int) : List Int)).bind fun y408 => ((spec_l1Cur_pick.f s0_0 s0_1 s0_2 24).bind fun bt411 => (if 0 ≤ (wrap64 (7 + (wrap64 (Int.tdiv bt411.1 11)))) then (if (wrap64 (7 + (wrap64 (Int.tdiv bt411.1 11)))) ≤ (y408.length : Int) then ((spec_l1Cur_among.f s0_0 bt411.2.1 bt411.2.2 (y408.take ((wrap64 (7 + (wrap64 (Int.tdiv bt411.1 11)))) : Int).toNat)).bind fun bt418 => (some (bt418.1, bt418.2.1, bt418.2.2))) else (none)) else (none)))
set_option maxHeartbeats 8000000 in
set_option maxRecDepth 100000 in
theorem spec_l1Cur_day22.calls (g : Nat) (s0_0 : List Int) (s0_1 s0_2 r1 r2 r3 : Int) (w0 w : World) (hI : IsS92 w0 w g s0_0 s0_1 s0_2) (hB : Below w0.heap.size w0 w) (h : spec_l1Cur_day22.f s0_0 s0_1 s0_2 = some (r1, r2, r3)) :
  Calls Tryd.prog 84 #[.pointer (some ⟨g, 0, none⟩)] w fun e w' => e = .returned (.int .i64 r1) ∧ IsS92 w0 w' g s0_0 r2 r3 ∧ Below w0.heap.size w0 w' ∧ KeepBut w w' g none := by
 have HI0 := Aside0.mk hI
 have HK := Aside0.mk (KeepBut.refl w g none)
 have HL := Aside0.mk hB.size
 clear hI
 have HW0 := Aside0.mk hB.size
 have HB := Aside0.mk hB
 clear hB
 have H := h
 clear h
 unfold spec_l1Cur_day22.f at H
 obtain ⟨y408, hy408⟩ : ∃ y_ : List Int, y_ = (([0, 3, 4, 10, 14, 20, 999, (-1), 1000] : List Int)) := ⟨_, rfl⟩
 replace H : ((spec_l1Cur_pick.f s0_0 s0_1 s0_2 24).bind fun bt411 => (if 0 ≤ (wrap64 (7 + (wrap64 (Int.tdiv bt411.1 11)))) then (if (wrap64 (7 + (wrap64 (Int.tdiv bt411.1 11)))) ≤ (y408.length : Int) then ((spec_l1Cur_among.f s0_0 bt411.2.1 bt411.2.2 (y408.take ((wrap64 (7 + (wrap64 (Int.tdiv bt411.1 11)))) : Int).toNat)).bind fun bt418 => (some (bt418.1, bt418.2.1, bt418.2.2))) else (none)) else (none))) = some (r1, r2, r3) := by first | (rw [hy408]; with_reducible exact H) | (have H2_ := (Option.bind_some _ _).symm.trans H; rw [hy408]; with_reducible exact H2_) | (have H2_ := (Option.bind_some _ _).symm.trans H; with_reducible exact H2_) | with_reducible exact H | (rw [hy408]; exact H) | exact H
 have Ny408 := Aside0.mk hy408
 clear hy408
 replace H := Option.bind_eq_some_iff.mp H
 obtain ⟨⟨t411, t412, t413⟩, A20, H⟩ := H
 replace H : (if 0 ≤ (wrap64 (7 + (wrap64 (Int.tdiv t411 11)))) then (if (wrap64 (7 + (wrap64 (Int.tdiv t411 11)))) ≤ (y408.length : Int) then ((spec_l1Cur_among.f s0_0 t412 t413 (y408.take ((wrap64 (7 + (wrap64 (Int.tdiv t411 11)))) : Int).toNat)).bind fun bt418 => (some (bt418.1, bt418.2.1, bt418.2.2))) else (none)) else (none)) = some (r1, r2, r3) := H
 have A2 := Aside0.mk A20
 clear A20
 obtain ⟨ji3, hji3⟩ : ∃ j_ : Int, (wrap64 (7 + (wrap64 (Int.tdiv t411 11)))) = j_ := ⟨_, rfl⟩
 replace H : (if 0 ≤ (ji3) then (if (ji3) ≤ (y408.length : Int) then ((spec_l1Cur_among.f s0_0 t412 t413 (y408.take ((ji3) : Int).toNat)).bind fun bt418 => (some (bt418.1, bt418.2.1, bt418.2.2))) else (none)) else (none)) = some (r1, r2, r3) := by first | (rw [hji3] at H; exact H) | (simp only [hji3] at H ⊢; exact H)
 (try rw [hji3] at A2)
 have hji3w : (IntKind.i64.wrap (7 + (wrap64 (Int.tdiv t411 11)))) = ji3 := (i64_w _).trans hji3
 by_cases c4 : 0 ≤ (ji3)
 ·rw [if_pos c4] at H
  have c4b0 := eq_true c4
  have c4b1 : decide (0 ≤ (ji3)) = true := decide_eq_true c4
  clear c4
  by_cases c5 : (ji3) ≤ (y408.length : Int)
  ·rw [if_pos c5] at H
   have c5b0 := eq_true c5
   have c5b1 : decide ((ji3) ≤ (y408.length : Int)) = true := decide_eq_true c5
   clear c5
   obtain ⟨y414, hy414⟩ : ∃ y_ : List Int, y_ = (y408.take ((ji3) : Int).toNat) := ⟨_, rfl⟩
   replace H : ((spec_l1Cur_among.f s0_0 t412 t413 y414).bind fun bt418 => (some (bt418.1, bt418.2.1, bt418.2.2))) = some (r1, r2, r3) := by first | (rw [hy414]; with_reducible exact H) | (have H2_ := (Option.bind_some _ _).symm.trans H; rw [hy414]; with_reducible exact H2_) | (have H2_ := (Option.bind_some _ _).symm.trans H; with_reducible exact H2_) | with_reducible exact H | (rw [hy414]; exact H) | exact H
   have Ny414 := Aside0.mk hy414
   clear hy414
   replace H := Option.bind_eq_some_iff.mp H
   obtain ⟨⟨t418, t419, t420⟩, A60, H⟩ := H
   replace H : (some (t418, t419, t420)) = some (r1, r2, r3) := H
   have A6 := Aside0.mk A60
   clear A60
   simp only [Option.some.injEq, Prod.mk.injEq] at H
   obtain ⟨rfl, rfl, rfl⟩ := H
   go_enter Tryd.func84, Tryd.ntmps84
   go_wp2_with (first | ((with_reducible refine gate_dst (N := 4) rfl ?_); refine Kd.R_lit (Kd.int .i64) _ 3 ?hg (N := 4) ?hd (xs := ([0, 3, 4, 10, 14, 20, 999, (-1), 1000] : List Int)) (inner := [.int .i64 0, .int .i64 3, .int .i64 4, .int .i64 10, .int .i64 14, .int .i64 20, .int .i64 999, .int .i64 (-1), .int .i64 1000]) (ok := fun _ => True) (okp := fun _ => True) ?hr ?hp (fun _ hk => hk) trivial (Below.refl _ _) (Nat.le_refl _) (by simp) ?_; (case hd => rfl); (case hg => rfl); (case hr => first | (go_simp; done) | (go_simp; rfl)); (case hp => exact (Reps.one (show Kd.M (Kd.int .i64) _ _ _ 0 [.int .i64 0] from rfl) (Reps.one (show Kd.M (Kd.int .i64) _ _ _ 3 [.int .i64 3] from rfl) (Reps.one (show Kd.M (Kd.int .i64) _ _ _ 4 [.int .i64 4] from rfl) (Reps.one (show Kd.M (Kd.int .i64) _ _ _ 10 [.int .i64 10] from rfl) (Reps.one (show Kd.M (Kd.int .i64) _ _ _ 14 [.int .i64 14] from rfl) (Reps.one (show Kd.M (Kd.int .i64) _ _ _ 20 [.int .i64 20] from rfl) (Reps.one (show Kd.M (Kd.int .i64) _ _ _ 999 [.int .i64 999] from rfl) (Reps.one (show Kd.M (Kd.int .i64) _ _ _ (-1) [.int .i64 (-1)] from rfl) (Reps.one (show Kd.M (Kd.int .i64) _ _ _ 1000 [.int .i64 1000] from rfl) (Reps.none _ _))))))))))); intro v409 w7 ho8 hb hg_ hnew_; clear hg_ hnew_; (first | rw [← Ny408.out] at ho8 | (simp only [Int.reduceToNat] at ho8; rw [← Ny408.out] at ho8)); have HO410 := Aside0.mk (Kd.R_lower ho8 (keep_size (w := w) (g := g) (row := none) (by repeat (first | (with_reducible first | exact HK.out | apply KeepBut.set_ | apply keep_drewN | apply keep_drew | apply keep_alloc) | exact HK.out)))); replace HK := Aside0.mk (KeepBut.trans (by repeat (first | (with_reducible first | exact HK.out | apply KeepBut.set_ | apply keep_drewN | apply keep_drew | apply keep_alloc) | exact HK.out)) (KeepBut.of_below hb g none) (.inl rfl)); replace HB := Aside0.mk (below_step (by repeat (first | (with_reducible first | exact HB.out | apply below_alloc | apply pw_below_drewN | apply below_drew1 | refine below_set ?_ (IsS92.ge HI0.out)) | exact HB.out)) hb); replace HI0 := Aside0.mk (IsS92.below (by repeat (first | (with_reducible first | exact HI0.out | apply IsS92.alloc | apply IsS92.drewN | apply IsS92.drew | apply IsS92.set_1 | apply IsS92.set_2) | exact HI0.out)) hb); clear hb ho8) | ((with_reducible refine gate_callee (f := 86) rfl ?_); refine goesL_ (some 6) rfl rfl Tryd.func86 (by kernel_rfl) rfl #[.pointer (some ⟨g, 0, none⟩), .int .i64 24] rfl argsB ?_; (with_reducible refine (spec_l1Cur_pick.calls g s0_0 s0_1 s0_2 24 t411 t412 t413 w0 _ ?side1 ?side2 A2.out).mono ?_); (case side1 => repeat (first | (with_reducible first | exact HI0.out | apply IsS92.alloc | apply IsS92.drewN | apply IsS92.drew | apply IsS92.set_1 | apply IsS92.set_2) | exact HI0.out)); (case side2 => repeat (first | (with_reducible first | exact HB.out | apply below_alloc | apply pw_below_drewN | apply below_drew1 | refine below_set ?_ (IsS92.ge HI0.out)) | exact HB.out)); rintro e w9 ⟨rfl, hi, hb, hk⟩; refine ⟨_, rfl, ?_⟩; replace HO410 := Aside0.mk (Kd.R_mono (Kd.R_keep (IsS92.apart (show IsS92 w0 _ g s0_0 s0_1 s0_2 from by repeat (first | (with_reducible first | exact HI0.out | apply IsS92.alloc | apply IsS92.drewN | apply IsS92.drew | apply IsS92.set_1 | apply IsS92.set_2) | exact HI0.out)) (upR HO410.out) (by decide)) hk (fun _ h => h.2)) (fun _ h => h.1)); replace HK := Aside0.mk (KeepBut.trans (by repeat (first | (with_reducible first | exact HK.out | apply KeepBut.set_ | apply keep_drewN | apply keep_drew | apply keep_alloc) | exact HK.out)) hk (.inl rfl)); replace HB := Aside0.mk (hb); replace HI0 := Aside0.mk (hi); (try clear hb); (try clear hk); (try clear hi); obtain ⟨Ao11, co11, eo11⟩ := Kd.R_slice HO410.out; subst eo11; have q10 : ((ji3) : Int) ≤ ((y408.length : Int) : Int) := of_decide_eq_true asmB; obtain ⟨i010, hi010, _, hsz10, _⟩ := info_parts info3; have hroom10 : y408.length ≤ co11 := (Kd.R_reads' HO410.out).2.1; have hC10 : Kd.C (Kd.int .i64) _ Ao11 y408.length y408 := (Kd.R_reads' HO410.out).2.2; have hcut10 := cut_to (P := Tryd.prog) 68 3 .i64 Tryd.underlying68 hi010 Ao11 y408.length co11 (ji3) (of_decide_eq_true asmB) q10 hroom10; have hr10 := Kd.C_take (m := ((ji3) : Int).toNat) hC10 (by omega); have hy10 : y414.length = ((ji3) : Int).toNat := (by rw [Ny414.out, List.length_take]; omega); rw [← Ny414.out] at hr10; rw [← hy10] at hcut10; have HR417 := Aside0.mk hr10; have HC417 := Aside0.mk (show y414.length ≤ co11 from by omega); clear hr10 hC10 hroom10 hi010 hsz10; have KY10 := Aside0.mk hy10; clear hy10; have KL10 := Aside0.mk (show ((ji3) : Int).toNat ≤ y408.length from by omega); replace q10 := eq_true q10) | ((with_reducible refine gate_callee (f := 85) rfl ?_); refine goesL_ (some 10) rfl rfl Tryd.func85 (by kernel_rfl) rfl #[.pointer (some ⟨g, 0, none⟩), .slice Ao11 y414.length co11] rfl argsB ?_; (with_reducible refine (spec_l1Cur_among.calls g s0_0 t412 t413 _ _ y414 t418 t419 t420 w0 _ ?side1 ?side2 ?side3 ?side4 ?side5 A6.out).mono ?_); (case side1 => repeat (first | (with_reducible first | exact HI0.out | apply IsS92.alloc | apply IsS92.drewN | apply IsS92.drew | apply IsS92.set_1 | apply IsS92.set_2) | exact HI0.out)); (case side2 => repeat (first | (with_reducible first | exact HB.out | apply below_alloc | apply pw_below_drewN | apply below_drew1 | refine below_set ?_ (IsS92.ge HI0.out)) | exact HB.out)); (case side3 => repeat (first | exact (by repeat (first | (with_reducible exact HR417.out) | (with_reducible refine Kd.C_alloc ?_ _) | (with_reducible refine Kd.C_drewN ?_ _) | (with_reducible refine Kd.C_drew ?_) | exact HR417.out)) | (with_reducible refine Kd.C_alloc ?_ _) | (with_reducible refine Kd.C_drewN ?_ _) | (with_reducible refine Kd.C_drew ?_))); (case side4 => exact HC417.out); (case side5 => exact (by rintro ad rfl _ rfl; exact IsS92.own_ne HI0.out HO410.out (by decide) (by simp [Value.ownBlock]))); rintro e w12 ⟨rfl, hi, hb, hk⟩; refine ⟨_, rfl, ?_⟩; replace HO410 := Aside0.mk (Kd.R_mono (Kd.R_keep (IsS92.apart (show IsS92 w0 _ g s0_0 t412 t413 from by repeat (first | (with_reducible first | exact HI0.out | apply IsS92.alloc | apply IsS92.drewN | apply IsS92.drew | apply IsS92.set_1 | apply IsS92.set_2) | exact HI0.out)) (upR HO410.out) (by decide)) hk (fun _ h => h.2)) (fun _ h => h.1)); replace HK := Aside0.mk (KeepBut.trans (by repeat (first | (with_reducible first | exact HK.out | apply KeepBut.set_ | apply keep_drewN | apply keep_drew | apply keep_alloc) | exact HK.out)) hk (.inl rfl)); replace HB := Aside0.mk (hb); replace HI0 := Aside0.mk (hi); (try clear hb); (try clear hk); (try clear hi)))
   go_ret
   exact ⟨by first | rfl | (simp [errW_none, errW_some] <;> rfl) | (simp only [← hji3]; first | rfl | (simp [errW_none, errW_some] <;> rfl)) | (simp [*, errW_none, errW_some] <;> rfl), by repeat (first | (with_reducible first | exact HI0.out | apply IsS92.alloc | apply IsS92.drewN | apply IsS92.drew | apply IsS92.set_1 | apply IsS92.set_2) | exact HI0.out), by repeat (first | (with_reducible first | exact HB.out | apply below_alloc | apply pw_below_drewN | apply below_drew1 | refine below_set ?_ (IsS92.ge HI0.out)) | exact HB.out), by repeat (first | (with_reducible first | exact HK.out | apply KeepBut.set_ | apply keep_drewN | apply keep_drew | apply keep_alloc) | exact HK.out)⟩
  ·rw [if_neg c5] at H
   exact absurd H (by simp)
 ·rw [if_neg c4] at H
  exact absurd H (by simp)

/-! ### spec_DrawFreeDays: function 48 -/
def spec_DrawFreeDays.f (k : Nat) (l0 : List Int) : Option ((List (S26)) × ByteArray × Int × Int) := (spec_l1Cur_permits.f k l0 0 0).bind fun bt422 => ((spec_l1Cur_day22.f l0 bt422.2.1 bt422.2.2).bind fun bt427 => ((spec_l1Cur_cave22.f l0 bt427.2.1 bt427.2.2).bind fun bt430 => ((some (([0, 5, 30, (-1), 1000] : List Int) : List Int)).bind fun y433 => ((spec_l1Cur_pick.f l0 bt430.2.1 bt430.2.2 24).bind fun bt436 => (if 0 ≤ (wrap64 (3 + (wrap64 (Int.tdiv bt436.1 11)))) then (if (wrap64 (3 + (wrap64 (Int.tdiv bt436.1 11)))) ≤ (y433.length : Int) then ((spec_l1Cur_among.f l0 bt436.2.1 bt436.2.2 (y433.take ((wrap64 (3 + (wrap64 (Int.tdiv bt436.1 11)))) : Int).toNat)).bind fun bt443 => (some (bt422.1, bt430.1, bt427.1, wrap64 (bt427.1 + bt443.1)))) else (none)) else (none))))))
theorem spec_DrawFreeDays.mono : ∀ a0 k, LeO (spec_DrawFreeDays.f k a0) (spec_DrawFreeDays.f (k + 1) a0) := by
 intro a0 k
 unfold spec_DrawFreeDays.f
 repeat' with_reducible first | apply spec_l1Cur_permits.mono | exact LeO.refl _ | exact LeO.none _ | refine LeO.ite ?_ ?_ | refine LeO.bind ?_ (fun _ => ?_)
set_option maxHeartbeats 8000000 in
set_option maxRecDepth 100000 in
theorem spec_DrawFreeDays.calls (k : Nat) (A0 : Option Addr) (c0 : Nat) (l0 : List Int) (r1 : List (S26)) (r2 : ByteArray) (r3 r4 : Int) (w : World) (hr0 : Kd.C (Kd.int .u8) w A0 l0.length l0) (hc0 : l0.length ≤ c0) (h : spec_DrawFreeDays.f k l0 = some (r1, r2, r3, r4)) :
  Calls Tryd.prog 48 #[.slice A0 l0.length c0] w fun e w' => ∃ v0_ : Value, e = .returned (.tuple #[v0_, .string r2, .int .i64 r3, .int .i64 r4]) ∧ Kd.R k26 26 w' w.heap.size (fun _ => True) v0_ r1 ∧ Below w.heap.size w w' := by
 have hu92 := Tryd.underlying92
 have HR0 := Aside0.mk hr0
 have HC0 := Aside0.mk hc0
 clear hr0 hc0
 have HB := Aside0.mk (Below.refl w.heap.size w)
 have H := h
 clear h
 unfold spec_DrawFreeDays.f at H
 replace H := Option.bind_eq_some_iff.mp H
 obtain ⟨⟨t422, t425, t426⟩, A20, H⟩ := H
 replace H : ((spec_l1Cur_day22.f l0 t425 t426).bind fun bt427 => ((spec_l1Cur_cave22.f l0 bt427.2.1 bt427.2.2).bind fun bt430 => ((some (([0, 5, 30, (-1), 1000] : List Int) : List Int)).bind fun y433 => ((spec_l1Cur_pick.f l0 bt430.2.1 bt430.2.2 24).bind fun bt436 => (if 0 ≤ (wrap64 (3 + (wrap64 (Int.tdiv bt436.1 11)))) then (if (wrap64 (3 + (wrap64 (Int.tdiv bt436.1 11)))) ≤ (y433.length : Int) then ((spec_l1Cur_among.f l0 bt436.2.1 bt436.2.2 (y433.take ((wrap64 (3 + (wrap64 (Int.tdiv bt436.1 11)))) : Int).toNat)).bind fun bt443 => (some (t422, bt430.1, bt427.1, wrap64 (bt427.1 + bt443.1)))) else (none)) else (none)))))) = some (r1, r2, r3, r4) := H
 have A2 := Aside0.mk A20
 clear A20
 replace H := Option.bind_eq_some_iff.mp H
 obtain ⟨⟨t427, t428, t429⟩, A30, H⟩ := H
 replace H : ((spec_l1Cur_cave22.f l0 t428 t429).bind fun bt430 => ((some (([0, 5, 30, (-1), 1000] : List Int) : List Int)).bind fun y433 => ((spec_l1Cur_pick.f l0 bt430.2.1 bt430.2.2 24).bind fun bt436 => (if 0 ≤ (wrap64 (3 + (wrap64 (Int.tdiv bt436.1 11)))) then (if (wrap64 (3 + (wrap64 (Int.tdiv bt436.1 11)))) ≤ (y433.length : Int) then ((spec_l1Cur_among.f l0 bt436.2.1 bt436.2.2 (y433.take ((wrap64 (3 + (wrap64 (Int.tdiv bt436.1 11)))) : Int).toNat)).bind fun bt443 => (some (t422, bt430.1, t427, wrap64 (t427 + bt443.1)))) else (none)) else (none))))) = some (r1, r2, r3, r4) := H
 have A3 := Aside0.mk A30
 clear A30
 replace H := Option.bind_eq_some_iff.mp H
 obtain ⟨⟨t430, t431, t432⟩, A40, H⟩ := H
 replace H : ((some (([0, 5, 30, (-1), 1000] : List Int) : List Int)).bind fun y433 => ((spec_l1Cur_pick.f l0 t431 t432 24).bind fun bt436 => (if 0 ≤ (wrap64 (3 + (wrap64 (Int.tdiv bt436.1 11)))) then (if (wrap64 (3 + (wrap64 (Int.tdiv bt436.1 11)))) ≤ (y433.length : Int) then ((spec_l1Cur_among.f l0 bt436.2.1 bt436.2.2 (y433.take ((wrap64 (3 + (wrap64 (Int.tdiv bt436.1 11)))) : Int).toNat)).bind fun bt443 => (some (t422, t430, t427, wrap64 (t427 + bt443.1)))) else (none)) else (none)))) = some (r1, r2, r3, r4) := H
 have A4 := Aside0.mk A40
 clear A40
 obtain ⟨y433, hy433⟩ : ∃ y_ : List Int, y_ = (([0, 5, 30, (-1), 1000] : List Int)) := ⟨_, rfl⟩
 replace H : ((spec_l1Cur_pick.f l0 t431 t432 24).bind fun bt436 => (if 0 ≤ (wrap64 (3 + (wrap64 (Int.tdiv bt436.1 11)))) then (if (wrap64 (3 + (wrap64 (Int.tdiv bt436.1 11)))) ≤ (y433.length : Int) then ((spec_l1Cur_among.f l0 bt436.2.1 bt436.2.2 (y433.take ((wrap64 (3 + (wrap64 (Int.tdiv bt436.1 11)))) : Int).toNat)).bind fun bt443 => (some (t422, t430, t427, wrap64 (t427 + bt443.1)))) else (none)) else (none))) = some (r1, r2, r3, r4) := by first | (rw [hy433]; with_reducible exact H) | (have H2_ := (Option.bind_some _ _).symm.trans H; rw [hy433]; with_reducible exact H2_) | (have H2_ := (Option.bind_some _ _).symm.trans H; with_reducible exact H2_) | with_reducible exact H | (rw [hy433]; exact H) | exact H
 have Ny433 := Aside0.mk hy433
 clear hy433
 replace H := Option.bind_eq_some_iff.mp H
 obtain ⟨⟨t436, t437, t438⟩, A50, H⟩ := H
 replace H : (if 0 ≤ (wrap64 (3 + (wrap64 (Int.tdiv t436 11)))) then (if (wrap64 (3 + (wrap64 (Int.tdiv t436 11)))) ≤ (y433.length : Int) then ((spec_l1Cur_among.f l0 t437 t438 (y433.take ((wrap64 (3 + (wrap64 (Int.tdiv t436 11)))) : Int).toNat)).bind fun bt443 => (some (t422, t430, t427, wrap64 (t427 + bt443.1)))) else (none)) else (none)) = some (r1, r2, r3, r4) := H
 have A5 := Aside0.mk A50
 clear A50
 obtain ⟨ji6, hji6⟩ : ∃ j_ : Int, (wrap64 (3 + (wrap64 (Int.tdiv t436 11)))) = j_ := ⟨_, rfl⟩
 replace H : (if 0 ≤ (ji6) then (if (ji6) ≤ (y433.length : Int) then ((spec_l1Cur_among.f l0 t437 t438 (y433.take ((ji6) : Int).toNat)).bind fun bt443 => (some (t422, t430, t427, wrap64 (t427 + bt443.1)))) else (none)) else (none)) = some (r1, r2, r3, r4) := by first | (rw [hji6] at H; exact H) | (simp only [hji6] at H ⊢; exact H)
 (try rw [hji6] at A2)
 (try rw [hji6] at A3)
 (try rw [hji6] at A4)
 (try rw [hji6] at A5)
 have hji6w : (IntKind.i64.wrap (3 + (wrap64 (Int.tdiv t436 11)))) = ji6 := (i64_w _).trans hji6
 by_cases c7 : 0 ≤ (ji6)
 ·rw [if_pos c7] at H
  have c7b0 := eq_true c7
  have c7b1 : decide (0 ≤ (ji6)) = true := decide_eq_true c7
  clear c7
  by_cases c8 : (ji6) ≤ (y433.length : Int)
  ·rw [if_pos c8] at H
   have c8b0 := eq_true c8
   have c8b1 : decide ((ji6) ≤ (y433.length : Int)) = true := decide_eq_true c8
   clear c8
   obtain ⟨y439, hy439⟩ : ∃ y_ : List Int, y_ = (y433.take ((ji6) : Int).toNat) := ⟨_, rfl⟩
   replace H : ((spec_l1Cur_among.f l0 t437 t438 y439).bind fun bt443 => (some (t422, t430, t427, wrap64 (t427 + bt443.1)))) = some (r1, r2, r3, r4) := by first | (rw [hy439]; with_reducible exact H) | (have H2_ := (Option.bind_some _ _).symm.trans H; rw [hy439]; with_reducible exact H2_) | (have H2_ := (Option.bind_some _ _).symm.trans H; with_reducible exact H2_) | with_reducible exact H | (rw [hy439]; exact H) | exact H
   have Ny439 := Aside0.mk hy439
   clear hy439
   replace H := Option.bind_eq_some_iff.mp H
   obtain ⟨⟨t443, t444, t445⟩, A90, H⟩ := H
   replace H : (some (t422, t430, t427, wrap64 (t427 + t443))) = some (r1, r2, r3, r4) := H
   have A9 := Aside0.mk A90
   clear A90
   simp only [Option.some.injEq, Prod.mk.injEq] at H
   obtain ⟨rfl, rfl, rfl, rfl⟩ := H
   go_enter Tryd.func48, Tryd.ntmps48
   go_wp2_with (first | ((with_reducible refine gD 11 ?_); refine bxE 11 92 #[.slice A0 l0.length c0, .int .i64 0, .int .u64 0] fun gb421 w10 hg hbox hb => ?_; have GE421 := gB HB hg; have HI421 := Aside0.mk ((⟨_, _, hbox, (by rw [hg]; exact (below_size (bW HB)) : w.heap.size ≤ gb421), HR0.out⟩ : IsS92 w w10 gb421 l0 0 0)); replace HB := uB HB hb; clear hb hbox hg) | ((with_reducible refine gate_callee (f := 81) rfl ?_); refine goesL_ (some 13) rfl rfl Tryd.func81 (by kernel_rfl) rfl #[.pointer (some ⟨gb421, 0, none⟩)] rfl argsB ?_; (with_reducible refine (spec_l1Cur_permits.calls k gb421 l0 0 0 t422 t425 t426 w _ ?side1 ?side2 A2.out).mono ?_); (case side1 => repeat (first | (with_reducible first | exact HI421.out | apply IsS92.alloc | apply IsS92.drewN | apply IsS92.drew | apply IsS92.set_1 | apply IsS92.set_2) | exact HI421.out)); (case side2 => repeat (first | (with_reducible first | exact HB.out | apply below_alloc | apply pw_below_drewN | apply below_drew1 | refine below_set ?_ (IsS92.ge HI421.out)) | exact HB.out)); rintro e w11 ⟨v423, rfl, ho0, hi, hb, hk⟩; refine ⟨_, rfl, ?_⟩; have HO424 := Aside0.mk (Kd.R_lower ho0 (below_size (by repeat (first | (with_reducible first | exact HB.out | apply below_alloc | apply pw_below_drewN | apply below_drew1 | refine below_set ?_ (IsS92.ge HI421.out)) | exact HB.out)))); replace HB := Aside0.mk (hb); replace HI421 := Aside0.mk (hi); (try clear hb); (try clear hk); (try clear hi); (try clear ho0)) | ((with_reducible refine gate_callee (f := 84) rfl ?_); refine goesL_ (some 15) rfl rfl Tryd.func84 (by kernel_rfl) rfl #[.pointer (some ⟨gb421, 0, none⟩)] rfl argsB ?_; (with_reducible refine (spec_l1Cur_day22.calls gb421 l0 t425 t426 t427 t428 t429 w _ ?side1 ?side2 A3.out).mono ?_); (case side1 => repeat (first | (with_reducible first | exact HI421.out | apply IsS92.alloc | apply IsS92.drewN | apply IsS92.drew | apply IsS92.set_1 | apply IsS92.set_2) | exact HI421.out)); (case side2 => repeat (first | (with_reducible first | exact HB.out | apply below_alloc | apply pw_below_drewN | apply below_drew1 | refine below_set ?_ (IsS92.ge HI421.out)) | exact HB.out)); rintro e w12 ⟨rfl, hi, hb, hk⟩; refine ⟨_, rfl, ?_⟩; replace HO424 := Aside0.mk (Kd.R_mono (Kd.R_keep (IsS92.apart (show IsS92 w _ gb421 l0 t425 t426 from by repeat (first | (with_reducible first | exact HI421.out | apply IsS92.alloc | apply IsS92.drewN | apply IsS92.drew | apply IsS92.set_1 | apply IsS92.set_2) | exact HI421.out)) (upR HO424.out) (by decide)) hk (fun _ h => h.2)) (fun _ h => h.1)); replace HB := Aside0.mk (hb); replace HI421 := Aside0.mk (hi); (try clear hb); (try clear hk); (try clear hi)) | ((with_reducible refine gate_callee (f := 87) rfl ?_); refine goesL_ (some 18) rfl rfl Tryd.func87 (by kernel_rfl) rfl #[.pointer (some ⟨gb421, 0, none⟩)] rfl argsB ?_; (with_reducible refine (spec_l1Cur_cave22.calls gb421 l0 t428 t429 t430 t431 t432 w _ ?side1 ?side2 A4.out).mono ?_); (case side1 => repeat (first | (with_reducible first | exact HI421.out | apply IsS92.alloc | apply IsS92.drewN | apply IsS92.drew | apply IsS92.set_1 | apply IsS92.set_2) | exact HI421.out)); (case side2 => repeat (first | (with_reducible first | exact HB.out | apply below_alloc | apply pw_below_drewN | apply below_drew1 | refine below_set ?_ (IsS92.ge HI421.out)) | exact HB.out)); rintro e w13 ⟨rfl, hi, hb, hk⟩; refine ⟨_, rfl, ?_⟩; replace HO424 := Aside0.mk (Kd.R_mono (Kd.R_keep (IsS92.apart (show IsS92 w _ gb421 l0 t428 t429 from by repeat (first | (with_reducible first | exact HI421.out | apply IsS92.alloc | apply IsS92.drewN | apply IsS92.drew | apply IsS92.set_1 | apply IsS92.set_2) | exact HI421.out)) (upR HO424.out) (by decide)) hk (fun _ h => h.2)) (fun _ h => h.1)); replace HB := Aside0.mk (hb); replace HI421 := Aside0.mk (hi); (try clear hb); (try clear hk); (try clear hi)) | ((with_reducible refine gate_dst (N := 22) rfl ?_); refine Kd.R_lit (Kd.int .i64) _ 3 ?hg (N := 22) ?hd (xs := ([0, 5, 30, (-1), 1000] : List Int)) (inner := [.int .i64 0, .int .i64 5, .int .i64 30, .int .i64 (-1), .int .i64 1000]) (ok := fun _ => True) (okp := fun _ => True) ?hr ?hp (fun _ hk => hk) trivial (Below.refl _ _) (Nat.le_refl _) (by simp) ?_; (case hd => rfl); (case hg => rfl); (case hr => first | (go_simp; done) | (go_simp; rfl)); (case hp => exact (Reps.one (show Kd.M (Kd.int .i64) _ _ _ 0 [.int .i64 0] from rfl) (Reps.one (show Kd.M (Kd.int .i64) _ _ _ 5 [.int .i64 5] from rfl) (Reps.one (show Kd.M (Kd.int .i64) _ _ _ 30 [.int .i64 30] from rfl) (Reps.one (show Kd.M (Kd.int .i64) _ _ _ (-1) [.int .i64 (-1)] from rfl) (Reps.one (show Kd.M (Kd.int .i64) _ _ _ 1000 [.int .i64 1000] from rfl) (Reps.none _ _))))))); intro v434 w14 ho15 hb hg_ hnew_; clear hg_ hnew_; (first | rw [← Ny433.out] at ho15 | (simp only [Int.reduceToNat] at ho15; rw [← Ny433.out] at ho15)); have HO435 := Aside0.mk (Kd.R_lower ho15 (below_size (by repeat (first | (with_reducible first | exact HB.out | apply below_alloc | apply pw_below_drewN | apply below_drew1 | refine below_set ?_ (IsS92.ge HI421.out)) | exact HB.out)))); replace HO424 := uR HO424 hb; replace HB := Aside0.mk (below_step (by repeat (first | (with_reducible first | exact HB.out | apply below_alloc | apply pw_below_drewN | apply below_drew1 | refine below_set ?_ (IsS92.ge HI421.out)) | exact HB.out)) hb); replace HI421 := Aside0.mk (IsS92.below (by repeat (first | (with_reducible first | exact HI421.out | apply IsS92.alloc | apply IsS92.drewN | apply IsS92.drew | apply IsS92.set_1 | apply IsS92.set_2) | exact HI421.out)) hb); clear hb ho15) | ((with_reducible refine gate_callee (f := 86) rfl ?_); refine goesL_ (some 24) rfl rfl Tryd.func86 (by kernel_rfl) rfl #[.pointer (some ⟨gb421, 0, none⟩), .int .i64 24] rfl argsB ?_; (with_reducible refine (spec_l1Cur_pick.calls gb421 l0 t431 t432 24 t436 t437 t438 w _ ?side1 ?side2 A5.out).mono ?_); (case side1 => repeat (first | (with_reducible first | exact HI421.out | apply IsS92.alloc | apply IsS92.drewN | apply IsS92.drew | apply IsS92.set_1 | apply IsS92.set_2) | exact HI421.out)); (case side2 => repeat (first | (with_reducible first | exact HB.out | apply below_alloc | apply pw_below_drewN | apply below_drew1 | refine below_set ?_ (IsS92.ge HI421.out)) | exact HB.out)); rintro e w16 ⟨rfl, hi, hb, hk⟩; refine ⟨_, rfl, ?_⟩; replace HO424 := Aside0.mk (Kd.R_mono (Kd.R_keep (IsS92.apart (show IsS92 w _ gb421 l0 t431 t432 from by repeat (first | (with_reducible first | exact HI421.out | apply IsS92.alloc | apply IsS92.drewN | apply IsS92.drew | apply IsS92.set_1 | apply IsS92.set_2) | exact HI421.out)) (upR HO424.out) (by decide)) hk (fun _ h => h.2)) (fun _ h => h.1)); replace HO435 := Aside0.mk (Kd.R_mono (Kd.R_keep (IsS92.apart (show IsS92 w _ gb421 l0 t431 t432 from by repeat (first | (with_reducible first | exact HI421.out | apply IsS92.alloc | apply IsS92.drewN | apply IsS92.drew | apply IsS92.set_1 | apply IsS92.set_2) | exact HI421.out)) (upR HO435.out) (by decide)) hk (fun _ h => h.2)) (fun _ h => h.1)); replace HB := Aside0.mk (hb); replace HI421 := Aside0.mk (hi); (try clear hb); (try clear hk); (try clear hi); obtain ⟨Ao18, co18, eo18⟩ := Kd.R_slice HO435.out; subst eo18; have q17 : ((ji6) : Int) ≤ ((y433.length : Int) : Int) := of_decide_eq_true asmB; obtain ⟨i017, hi017, _, hsz17, _⟩ := info_parts info3; have hroom17 : y433.length ≤ co18 := (Kd.R_reads' HO435.out).2.1; have hC17 : Kd.C (Kd.int .i64) _ Ao18 y433.length y433 := (Kd.R_reads' HO435.out).2.2; have hcut17 := cut_to (P := Tryd.prog) 68 3 .i64 Tryd.underlying68 hi017 Ao18 y433.length co18 (ji6) (of_decide_eq_true asmB) q17 hroom17; have hr17 := Kd.C_take (m := ((ji6) : Int).toNat) hC17 (by omega); have hy17 : y439.length = ((ji6) : Int).toNat := (by rw [Ny439.out, List.length_take]; omega); rw [← Ny439.out] at hr17; rw [← hy17] at hcut17; have HR442 := Aside0.mk hr17; have HC442 := Aside0.mk (show y439.length ≤ co18 from by omega); clear hr17 hC17 hroom17 hi017 hsz17; have KY17 := Aside0.mk hy17; clear hy17; have KL17 := Aside0.mk (show ((ji6) : Int).toNat ≤ y433.length from by omega); replace q17 := eq_true q17) | ((with_reducible refine gate_callee (f := 85) rfl ?_); refine goesL_ (some 28) rfl rfl Tryd.func85 (by kernel_rfl) rfl #[.pointer (some ⟨gb421, 0, none⟩), .slice Ao18 y439.length co18] rfl argsB ?_; (with_reducible refine (spec_l1Cur_among.calls gb421 l0 t437 t438 _ _ y439 t443 t444 t445 w _ ?side1 ?side2 ?side3 ?side4 ?side5 A9.out).mono ?_); (case side1 => repeat (first | (with_reducible first | exact HI421.out | apply IsS92.alloc | apply IsS92.drewN | apply IsS92.drew | apply IsS92.set_1 | apply IsS92.set_2) | exact HI421.out)); (case side2 => repeat (first | (with_reducible first | exact HB.out | apply below_alloc | apply pw_below_drewN | apply below_drew1 | refine below_set ?_ (IsS92.ge HI421.out)) | exact HB.out)); (case side3 => repeat (first | exact (by repeat (first | (with_reducible exact HR442.out) | (with_reducible refine Kd.C_alloc ?_ _) | (with_reducible refine Kd.C_drewN ?_ _) | (with_reducible refine Kd.C_drew ?_) | exact HR442.out)) | (with_reducible refine Kd.C_alloc ?_ _) | (with_reducible refine Kd.C_drewN ?_ _) | (with_reducible refine Kd.C_drew ?_))); (case side4 => exact HC442.out); (case side5 => exact (by rintro ad rfl _ rfl; exact IsS92.own_ne HI421.out HO435.out (by decide) (by simp [Value.ownBlock]))); rintro e w19 ⟨rfl, hi, hb, hk⟩; refine ⟨_, rfl, ?_⟩; replace HO424 := Aside0.mk (Kd.R_mono (Kd.R_keep (IsS92.apart (show IsS92 w _ gb421 l0 t437 t438 from by repeat (first | (with_reducible first | exact HI421.out | apply IsS92.alloc | apply IsS92.drewN | apply IsS92.drew | apply IsS92.set_1 | apply IsS92.set_2) | exact HI421.out)) (upR HO424.out) (by decide)) hk (fun _ h => h.2)) (fun _ h => h.1)); replace HO435 := Aside0.mk (Kd.R_mono (Kd.R_keep (IsS92.apart (show IsS92 w _ gb421 l0 t437 t438 from by repeat (first | (with_reducible first | exact HI421.out | apply IsS92.alloc | apply IsS92.drewN | apply IsS92.drew | apply IsS92.set_1 | apply IsS92.set_2) | exact HI421.out)) (upR HO435.out) (by decide)) hk (fun _ h => h.2)) (fun _ h => h.1)); replace HB := Aside0.mk (hb); replace HI421 := Aside0.mk (hi); (try clear hb); (try clear hk); (try clear hi)))
   refine bodyPost_ret (results_list (rs := [.tmp 2, .tmp 3, .tmp 4, .tmp 5]) rfl (by simp) (.tmp (.tmp (.tmp (.tmp .nil))))) rfl ?_
   exact ⟨_, by first | rfl | (simp [errW_none, errW_some] <;> rfl) | (simp only [← hji6]; first | rfl | (simp [errW_none, errW_some] <;> rfl)) | (simp [*, errW_none, errW_some] <;> rfl), upR HO424.out, by repeat (first | (with_reducible first | exact HB.out | apply below_alloc | apply pw_below_drewN | apply below_drew1 | refine below_set ?_ (IsS92.ge HI421.out)) | exact HB.out)⟩
  ·rw [if_neg c8] at H
   exact absurd H (by simp)
 ·rw [if_neg c7] at H
  exact absurd H (by simp)

/-! ### laws_rInts: function 88 -/
def laws_rInts.l0 : Nat → List Int → List Int → Int → Option (Bool)
 | 0, _, _, _ => none
 | k + 1, x0, x1, x5 => if x5 < (x0.length : Int) then (if 0 ≤ x5 then (if x5 < (x1.length : Int) then (if (rd x0 x5) = (rd x1 x5) then (laws_rInts.l0 k x0 x1 (wrap64 (x5 + 1))) else (some false)) else (none)) else (none)) else (some true)
def laws_rInts.f (k : Nat) (l0 : List Int) (l1 : List Int) : Option (Bool) := if (l0.length : Int) = (l1.length : Int) then (laws_rInts.l0 k l0 l1 0) else (some false)
theorem laws_rInts.mono_l : ∀ k, (∀ y0 y1 y2, LeO (laws_rInts.l0 k y0 y1 y2) (laws_rInts.l0 (k + 1) y0 y1 y2))
 | 0 => fun _ _ _ r h => by simp [laws_rInts.l0] at h
 | k + 1 => by
  have ih0 := laws_rInts.mono_l k
  ·intro y0 y1 y2
   unfold laws_rInts.l0
   repeat' with_reducible first | apply ih0 | exact LeO.refl _ | exact LeO.none _ | refine LeO.ite ?_ ?_ | refine LeO.bind ?_ (fun _ => ?_)
theorem laws_rInts.mono : ∀ a0 a1 k, LeO (laws_rInts.f k a0 a1) (laws_rInts.f (k + 1) a0 a1) := by
 intro a0 a1 k
 have ih0 := laws_rInts.mono_l k
 unfold laws_rInts.f
 repeat' with_reducible first | apply ih0 | exact LeO.refl _ | exact LeO.none _ | refine LeO.ite ?_ ?_ | refine LeO.bind ?_ (fun _ => ?_)
set_option maxHeartbeats 8000000 in
set_option maxRecDepth 100000 in
theorem laws_rInts.calls (k : Nat) (A0 : Option Addr) (c0 : Nat) (l0 : List Int) (A1 : Option Addr) (c1 : Nat) (l1 : List Int) (r : Bool) (w : World) (hr0 : Kd.C (Kd.int .i64) w A0 l0.length l0) (hc0 : l0.length ≤ c0) (hr1 : Kd.C (Kd.int .i64) w A1 l1.length l1) (hc1 : l1.length ≤ c1) (h : laws_rInts.f k l0 l1 = some r) :
  Calls Tryd.prog 88 #[.slice A0 l0.length c0, .slice A1 l1.length c1] w fun e w' => e = .returned (.bool r) ∧ Drawn0 w w' := by
 have HR0 := Aside0.mk hr0
 have HC0 := Aside0.mk hc0
 clear hr0 hc0
 have HR1 := Aside0.mk hr1
 have HC1 := Aside0.mk hc1
 clear hr1 hc1
 have H := h
 clear h
 unfold laws_rInts.f at H
 replace H := ifI H
 rcases H with ⟨H, c3, c3b0, c3b1⟩ | ⟨H, c3, c3b0, c3b1⟩
 ·have c3b2 : (l0.length == l1.length) = true := by first | simpa using c3 | (simp at c3 ⊢; omega)
  clear c3
  have H' := Aside0.mk H
  clear H
  go_enter Tryd.func88, Tryd.ntmps88
  go_wp2
  repeat (go_quiet (fail); try go_wp2)
  go_loopg [5] k (fun kq v5 w' => ∃ (x5_1 : Int), v5 = .int .i64 x5_1 ∧ Aside0 (laws_rInts.l0 kq l0 l1 x5_1 = some r) ∧ Aside0 (kq ≤ k) ∧ Drawn0 w w')
  case atStart => exact ⟨(0), rB, H', ⟨Nat.le_refl _⟩, by repeat (first | exact Drawn0.refl _ | apply Drawn0.step)⟩
  case round =>
   clear H'
   try clear c1
   try clear c3
   try clear c3b0
   try clear c3b1
   try clear c3b2
   obtain ⟨x5_1, rfl, HA, HK1, ⟨m1, rfl⟩⟩ := hrel
   cases gk with
   | zero => exact absurd HA.out (by simp [laws_rInts.l0])
   | succ k1 =>
    have H := HA.out
    clear HA
    simp only [laws_rInts.l0] at H
    replace H := ifD H
    rcases H with ⟨H, -, c4b0⟩ | ⟨H, -, c4b0⟩
    ·by_cases c5 : 0 ≤ x5_1
     ·rw [if_pos c5] at H
      have c5b0 : decide (0 ≤ x5_1) = true := decide_eq_true c5
      clear c5
      by_cases c6 : x5_1 < (l1.length : Int)
      ·rw [if_pos c6] at H
       have c6b0 : decide (x5_1 < (l1.length : Int)) = true := decide_eq_true c6
       clear c6
       replace H := ifI H
       rcases H with ⟨H, -, c7b0, c7b1⟩ | ⟨H, c7, c7b0, c7b1⟩
       ·have H' := Aside0.mk H
        clear H
        have p446 : 0 ≤ (x5_1 : Int) := of_decide_eq_true asmB
        have q446 : x5_1 < (l0.length : Int) := of_decide_eq_true asmB
        obtain ⟨ad446, e446, hx446_0⟩ := Kd.at_int HR0.out x5_1 p446 q446
        cases e446
        replace p446 := eq_true p446
        replace q446 := eq_true q446
        have p447 : 0 ≤ (x5_1 : Int) := of_decide_eq_true asmB
        have q447 : x5_1 < (l1.length : Int) := of_decide_eq_true asmB
        obtain ⟨ad447, e447, hx447_0⟩ := Kd.at_int HR1.out x5_1 p447 q447
        cases e447
        replace p447 := eq_true p447
        replace q447 := eq_true q447
        go_wp2
        repeat (go_quiet (fail); try go_wp2)
        go_roundg k1
        case measure => have := HK1.out; omega
        case rel => exact ⟨(wrap64 (x5_1 + 1)), rB, H', ⟨by have := HK1.out; omega⟩, by repeat (first | exact Drawn0.refl _ | apply Drawn0.step)⟩
       ·obtain rfl := Option.some.inj H
        have p446 : 0 ≤ (x5_1 : Int) := of_decide_eq_true asmB
        have q446 : x5_1 < (l0.length : Int) := of_decide_eq_true asmB
        obtain ⟨ad446, e446, hx446_0⟩ := Kd.at_int HR0.out x5_1 p446 q446
        cases e446
        replace p446 := eq_true p446
        replace q446 := eq_true q446
        have p447 : 0 ≤ (x5_1 : Int) := of_decide_eq_true asmB
        have q447 : x5_1 < (l1.length : Int) := of_decide_eq_true asmB
        obtain ⟨ad447, e447, hx447_0⟩ := Kd.at_int HR1.out x5_1 p447 q447
        cases e447
        replace p447 := eq_true p447
        replace q447 := eq_true q447
        go_wp2
        repeat (go_quiet (fail); try go_wp2)
        go_ret
        exact ⟨rB, by repeat (first | exact Drawn0.refl _ | apply Drawn0.step)⟩
      ·rw [if_neg c6] at H
       exact absurd H (by simp)
     ·rw [if_neg c5] at H
      exact absurd H (by simp)
    ·obtain rfl := Option.some.inj H
     go_wp2
     repeat (go_quiet (fail); try go_wp2)
     go_ret
     exact ⟨rB, by repeat (first | exact Drawn0.refl _ | apply Drawn0.step)⟩
 ·have c3b2 : (l0.length == l1.length) = false := by first | simpa using c3 | (simp at c3 ⊢; omega)
  obtain rfl := Option.some.inj H
  go_enter Tryd.func88, Tryd.ntmps88
  go_wp2
  repeat (go_quiet (fail); try go_wp2)
  go_ret
  exact ⟨rB, by repeat (first | exact Drawn0.refl _ | apply Drawn0.step)⟩

/-! ### laws_rTable: function 49 -/
def laws_rTable.l0 : Nat → List (List Int) → List (List Int) → Int → Option (Bool)
 | 0, _, _, _ => none
 | k + 1, x0, x1, x5 => if x5 < (x0.length : Int) then (if 0 ≤ x5 then (if x5 < (x1.length : Int) then ((laws_rInts.f k (rd_L5 x0 x5) (rd_L5 x1 x5)).bind fun t450 => (if t450 = true then (laws_rTable.l0 k x0 x1 (wrap64 (x5 + 1))) else (some false))) else (none)) else (none)) else (some true)
def laws_rTable.f (k : Nat) (l0 : List (List Int)) (l1 : List (List Int)) : Option (Bool) := if (l0.length : Int) = (l1.length : Int) then (laws_rTable.l0 k l0 l1 0) else (some false)
theorem laws_rTable.mono_l : ∀ k, (∀ y0 y1 y2, LeO (laws_rTable.l0 k y0 y1 y2) (laws_rTable.l0 (k + 1) y0 y1 y2))
 | 0 => fun _ _ _ r h => by simp [laws_rTable.l0] at h
 | k + 1 => by
  have ih0 := laws_rTable.mono_l k
  ·intro y0 y1 y2
   unfold laws_rTable.l0
   repeat' with_reducible first | apply ih0 | apply laws_rInts.mono | exact LeO.refl _ | exact LeO.none _ | refine LeO.ite ?_ ?_ | refine LeO.bind ?_ (fun _ => ?_)
theorem laws_rTable.mono : ∀ a0 a1 k, LeO (laws_rTable.f k a0 a1) (laws_rTable.f (k + 1) a0 a1) := by
 intro a0 a1 k
 have ih0 := laws_rTable.mono_l k
 unfold laws_rTable.f
 repeat' with_reducible first | apply ih0 | apply laws_rInts.mono | exact LeO.refl _ | exact LeO.none _ | refine LeO.ite ?_ ?_ | refine LeO.bind ?_ (fun _ => ?_)
set_option maxHeartbeats 8000000 in
set_option maxRecDepth 100000 in
theorem laws_rTable.calls (k : Nat) (A0 : Option Addr) (c0 : Nat) (l0 : List (List Int)) (A1 : Option Addr) (c1 : Nat) (l1 : List (List Int)) (r : Bool) (w : World) (hr0 : Kd.C (Kd.slice 3 (Kd.int .i64)) w A0 l0.length l0) (hc0 : l0.length ≤ c0) (hr1 : Kd.C (Kd.slice 3 (Kd.int .i64)) w A1 l1.length l1) (hc1 : l1.length ≤ c1) (h : laws_rTable.f k l0 l1 = some r) :
  Calls Tryd.prog 49 #[.slice A0 l0.length c0, .slice A1 l1.length c1] w fun e w' => e = .returned (.bool r) ∧ Drawn0 w w' := by
 have HR0 := Aside0.mk hr0
 have HC0 := Aside0.mk hc0
 clear hr0 hc0
 have HR1 := Aside0.mk hr1
 have HC1 := Aside0.mk hc1
 clear hr1 hc1
 have H := h
 clear h
 unfold laws_rTable.f at H
 replace H := ifI H
 rcases H with ⟨H, c3, c3b0, c3b1⟩ | ⟨H, c3, c3b0, c3b1⟩
 ·have c3b2 : (l0.length == l1.length) = true := by first | simpa using c3 | (simp at c3 ⊢; omega)
  clear c3
  have H' := Aside0.mk H
  clear H
  go_enter Tryd.func49, Tryd.ntmps49
  go_wp2
  repeat (go_quiet (fail); try go_wp2)
  go_loopg [5] k (fun kq v5 w' => ∃ (x5_1 : Int), v5 = .int .i64 x5_1 ∧ Aside0 (laws_rTable.l0 kq l0 l1 x5_1 = some r) ∧ Aside0 (kq ≤ k) ∧ Drawn0 w w')
  case atStart => exact ⟨(0), rB, H', ⟨Nat.le_refl _⟩, by repeat (first | exact Drawn0.refl _ | apply Drawn0.step)⟩
  case round =>
   clear H'
   try clear c1
   try clear c3
   try clear c3b0
   try clear c3b1
   try clear c3b2
   obtain ⟨x5_1, rfl, HA, HK1, ⟨m1, rfl⟩⟩ := hrel
   cases gk with
   | zero => exact absurd HA.out (by simp [laws_rTable.l0])
   | succ k1 =>
    have H := HA.out
    clear HA
    simp only [laws_rTable.l0] at H
    replace H := ifD H
    rcases H with ⟨H, -, c4b0⟩ | ⟨H, -, c4b0⟩
    ·by_cases c5 : 0 ≤ x5_1
     ·rw [if_pos c5] at H
      have c5b0 : decide (0 ≤ x5_1) = true := decide_eq_true c5
      clear c5
      by_cases c6 : x5_1 < (l1.length : Int)
      ·rw [if_pos c6] at H
       have c6b0 : decide (x5_1 < (l1.length : Int)) = true := decide_eq_true c6
       clear c6
       replace H := bA H
       obtain ⟨t450, A7, H⟩ := H
       rcases Bool.eq_false_or_eq_true t450 with rfl | rfl
       ·replace H := iT rfl H
        have H' := Aside0.mk H
        clear H
        have p448 : 0 ≤ (x5_1 : Int) := of_decide_eq_true asmB
        have q448 : x5_1 < (l0.length : Int) := of_decide_eq_true asmB
        obtain ⟨ad448, A448_0, c448_0, e448, hx448_0, hl448_0, hi448_0⟩ := at_L5 HR0.out x5_1 p448 q448
        cases e448
        have HR448_0 := Aside0.mk hi448_0
        have HC448_0 := Aside0.mk hl448_0
        clear hi448_0 hl448_0
        replace p448 := eq_true p448
        replace q448 := eq_true q448
        have p449 : 0 ≤ (x5_1 : Int) := of_decide_eq_true asmB
        have q449 : x5_1 < (l1.length : Int) := of_decide_eq_true asmB
        obtain ⟨ad449, A449_0, c449_0, e449, hx449_0, hl449_0, hi449_0⟩ := at_L5 HR1.out x5_1 p449 q449
        cases e449
        have HR449_0 := Aside0.mk hi449_0
        have HC449_0 := Aside0.mk hl449_0
        clear hi449_0 hl449_0
        replace p449 := eq_true p449
        replace q449 := eq_true q449
        go_wp2_with (first | (go_at_call 88; (with_reducible refine (laws_rInts.calls k1 _ _ (rd_L5 l0 x5_1) _ _ (rd_L5 l1 x5_1) true _ ?side1 ?side2 ?side3 ?side4 A7.out).mono ?_); (case side1 => repeat (first | exact HR448_0.out | (with_reducible refine Kd.C_alloc ?_ _) | (with_reducible refine Kd.C_drewN ?_ _) | (with_reducible refine Kd.C_drew ?_))); (case side2 => exact HC448_0.out); (case side3 => repeat (first | exact HR449_0.out | (with_reducible refine Kd.C_alloc ?_ _) | (with_reducible refine Kd.C_drewN ?_ _) | (with_reducible refine Kd.C_drew ?_))); (case side4 => exact HC449_0.out); rintro e w' ⟨rfl, ⟨nd, rfl⟩⟩; (try first | exact ⟨rfl, _, World.drewN_drewN _ _ _⟩ | exact ⟨rfl, _, Eq.trans (World.drewN_drewN _ _ _) (congrArg (World.drewN _) (Nat.add_assoc _ _ _))⟩)))
        repeat (go_quiet (first | (go_at_call 88; (with_reducible refine (laws_rInts.calls k1 _ _ (rd_L5 l0 x5_1) _ _ (rd_L5 l1 x5_1) true _ ?side1 ?side2 ?side3 ?side4 A7.out).mono ?_); (case side1 => repeat (first | exact HR448_0.out | (with_reducible refine Kd.C_alloc ?_ _) | (with_reducible refine Kd.C_drewN ?_ _) | (with_reducible refine Kd.C_drew ?_))); (case side2 => exact HC448_0.out); (case side3 => repeat (first | exact HR449_0.out | (with_reducible refine Kd.C_alloc ?_ _) | (with_reducible refine Kd.C_drewN ?_ _) | (with_reducible refine Kd.C_drew ?_))); (case side4 => exact HC449_0.out); rintro e w' ⟨rfl, ⟨nd, rfl⟩⟩; (try first | exact ⟨rfl, _, World.drewN_drewN _ _ _⟩ | exact ⟨rfl, _, Eq.trans (World.drewN_drewN _ _ _) (congrArg (World.drewN _) (Nat.add_assoc _ _ _))⟩))); try go_wp2_with (first | (go_at_call 88; (with_reducible refine (laws_rInts.calls k1 _ _ (rd_L5 l0 x5_1) _ _ (rd_L5 l1 x5_1) true _ ?side1 ?side2 ?side3 ?side4 A7.out).mono ?_); (case side1 => repeat (first | exact HR448_0.out | (with_reducible refine Kd.C_alloc ?_ _) | (with_reducible refine Kd.C_drewN ?_ _) | (with_reducible refine Kd.C_drew ?_))); (case side2 => exact HC448_0.out); (case side3 => repeat (first | exact HR449_0.out | (with_reducible refine Kd.C_alloc ?_ _) | (with_reducible refine Kd.C_drewN ?_ _) | (with_reducible refine Kd.C_drew ?_))); (case side4 => exact HC449_0.out); rintro e w' ⟨rfl, ⟨nd, rfl⟩⟩; (try first | exact ⟨rfl, _, World.drewN_drewN _ _ _⟩ | exact ⟨rfl, _, Eq.trans (World.drewN_drewN _ _ _) (congrArg (World.drewN _) (Nat.add_assoc _ _ _))⟩))))
        go_roundg k1
        case measure => have := HK1.out; omega
        case rel => exact ⟨(wrap64 (x5_1 + 1)), rB, H', ⟨by have := HK1.out; omega⟩, by repeat (first | exact Drawn0.refl _ | apply Drawn0.step)⟩
       ·replace H := iF (by decide) H
        obtain rfl := Option.some.inj H
        have p448 : 0 ≤ (x5_1 : Int) := of_decide_eq_true asmB
        have q448 : x5_1 < (l0.length : Int) := of_decide_eq_true asmB
        obtain ⟨ad448, A448_0, c448_0, e448, hx448_0, hl448_0, hi448_0⟩ := at_L5 HR0.out x5_1 p448 q448
        cases e448
        have HR448_0 := Aside0.mk hi448_0
        have HC448_0 := Aside0.mk hl448_0
        clear hi448_0 hl448_0
        replace p448 := eq_true p448
        replace q448 := eq_true q448
        have p449 : 0 ≤ (x5_1 : Int) := of_decide_eq_true asmB
        have q449 : x5_1 < (l1.length : Int) := of_decide_eq_true asmB
        obtain ⟨ad449, A449_0, c449_0, e449, hx449_0, hl449_0, hi449_0⟩ := at_L5 HR1.out x5_1 p449 q449
        cases e449
        have HR449_0 := Aside0.mk hi449_0
        have HC449_0 := Aside0.mk hl449_0
        clear hi449_0 hl449_0
        replace p449 := eq_true p449
        replace q449 := eq_true q449
        go_wp2_with (first | (go_at_call 88; (with_reducible refine (laws_rInts.calls k1 _ _ (rd_L5 l0 x5_1) _ _ (rd_L5 l1 x5_1) false _ ?side1 ?side2 ?side3 ?side4 A7.out).mono ?_); (case side1 => repeat (first | exact HR448_0.out | (with_reducible refine Kd.C_alloc ?_ _) | (with_reducible refine Kd.C_drewN ?_ _) | (with_reducible refine Kd.C_drew ?_))); (case side2 => exact HC448_0.out); (case side3 => repeat (first | exact HR449_0.out | (with_reducible refine Kd.C_alloc ?_ _) | (with_reducible refine Kd.C_drewN ?_ _) | (with_reducible refine Kd.C_drew ?_))); (case side4 => exact HC449_0.out); rintro e w' ⟨rfl, ⟨nd, rfl⟩⟩; (try first | exact ⟨rfl, _, World.drewN_drewN _ _ _⟩ | exact ⟨rfl, _, Eq.trans (World.drewN_drewN _ _ _) (congrArg (World.drewN _) (Nat.add_assoc _ _ _))⟩)))
        repeat (go_quiet (first | (go_at_call 88; (with_reducible refine (laws_rInts.calls k1 _ _ (rd_L5 l0 x5_1) _ _ (rd_L5 l1 x5_1) false _ ?side1 ?side2 ?side3 ?side4 A7.out).mono ?_); (case side1 => repeat (first | exact HR448_0.out | (with_reducible refine Kd.C_alloc ?_ _) | (with_reducible refine Kd.C_drewN ?_ _) | (with_reducible refine Kd.C_drew ?_))); (case side2 => exact HC448_0.out); (case side3 => repeat (first | exact HR449_0.out | (with_reducible refine Kd.C_alloc ?_ _) | (with_reducible refine Kd.C_drewN ?_ _) | (with_reducible refine Kd.C_drew ?_))); (case side4 => exact HC449_0.out); rintro e w' ⟨rfl, ⟨nd, rfl⟩⟩; (try first | exact ⟨rfl, _, World.drewN_drewN _ _ _⟩ | exact ⟨rfl, _, Eq.trans (World.drewN_drewN _ _ _) (congrArg (World.drewN _) (Nat.add_assoc _ _ _))⟩))); try go_wp2_with (first | (go_at_call 88; (with_reducible refine (laws_rInts.calls k1 _ _ (rd_L5 l0 x5_1) _ _ (rd_L5 l1 x5_1) false _ ?side1 ?side2 ?side3 ?side4 A7.out).mono ?_); (case side1 => repeat (first | exact HR448_0.out | (with_reducible refine Kd.C_alloc ?_ _) | (with_reducible refine Kd.C_drewN ?_ _) | (with_reducible refine Kd.C_drew ?_))); (case side2 => exact HC448_0.out); (case side3 => repeat (first | exact HR449_0.out | (with_reducible refine Kd.C_alloc ?_ _) | (with_reducible refine Kd.C_drewN ?_ _) | (with_reducible refine Kd.C_drew ?_))); (case side4 => exact HC449_0.out); rintro e w' ⟨rfl, ⟨nd, rfl⟩⟩; (try first | exact ⟨rfl, _, World.drewN_drewN _ _ _⟩ | exact ⟨rfl, _, Eq.trans (World.drewN_drewN _ _ _) (congrArg (World.drewN _) (Nat.add_assoc _ _ _))⟩))))
        go_ret
        exact ⟨rB, by repeat (first | exact Drawn0.refl _ | apply Drawn0.step)⟩
      ·rw [if_neg c6] at H
       exact absurd H (by simp)
     ·rw [if_neg c5] at H
      exact absurd H (by simp)
    ·obtain rfl := Option.some.inj H
     go_wp2
     repeat (go_quiet (fail); try go_wp2)
     go_ret
     exact ⟨rB, by repeat (first | exact Drawn0.refl _ | apply Drawn0.step)⟩
 ·have c3b2 : (l0.length == l1.length) = false := by first | simpa using c3 | (simp at c3 ⊢; omega)
  obtain rfl := Option.some.inj H
  go_enter Tryd.func49, Tryd.ntmps49
  go_wp2
  repeat (go_quiet (fail); try go_wp2)
  go_ret
  exact ⟨rB, by repeat (first | exact Drawn0.refl _ | apply Drawn0.step)⟩

/-! ### spec_DrawFirstSlot: function 50 -/
def spec_DrawFirstSlot.f (k : Nat) (l0 : List Int) : Option ((List (S26)) × ByteArray × Int × Int) := (spec_l1Cur_permits.f k l0 0 0).bind fun bt452 => ((spec_l1Cur_cave22.f l0 bt452.2.1 bt452.2.2).bind fun bt457 => ((spec_l1Cur_day22.f l0 bt457.2.1 bt457.2.2).bind fun bt460 => ((some (([1, 3, 10, 100, 0, 101] : List Int) : List Int)).bind fun y463 => ((spec_l1Cur_pick.f l0 bt460.2.1 bt460.2.2 24).bind fun bt466 => (if 0 ≤ (wrap64 (4 + (wrap64 (Int.tdiv bt466.1 11)))) then (if (wrap64 (4 + (wrap64 (Int.tdiv bt466.1 11)))) ≤ (y463.length : Int) then ((spec_l1Cur_among.f l0 bt466.2.1 bt466.2.2 (y463.take ((wrap64 (4 + (wrap64 (Int.tdiv bt466.1 11)))) : Int).toNat)).bind fun bt473 => (some (bt452.1, bt457.1, bt460.1, bt473.1))) else (none)) else (none))))))
theorem spec_DrawFirstSlot.mono : ∀ a0 k, LeO (spec_DrawFirstSlot.f k a0) (spec_DrawFirstSlot.f (k + 1) a0) := by
 intro a0 k
 unfold spec_DrawFirstSlot.f
 repeat' with_reducible first | apply spec_l1Cur_permits.mono | exact LeO.refl _ | exact LeO.none _ | refine LeO.ite ?_ ?_ | refine LeO.bind ?_ (fun _ => ?_)
set_option maxHeartbeats 8000000 in
set_option maxRecDepth 100000 in
theorem spec_DrawFirstSlot.calls (k : Nat) (A0 : Option Addr) (c0 : Nat) (l0 : List Int) (r1 : List (S26)) (r2 : ByteArray) (r3 r4 : Int) (w : World) (hr0 : Kd.C (Kd.int .u8) w A0 l0.length l0) (hc0 : l0.length ≤ c0) (h : spec_DrawFirstSlot.f k l0 = some (r1, r2, r3, r4)) :
  Calls Tryd.prog 50 #[.slice A0 l0.length c0] w fun e w' => ∃ v0_ : Value, e = .returned (.tuple #[v0_, .string r2, .int .i64 r3, .int .i64 r4]) ∧ Kd.R k26 26 w' w.heap.size (fun _ => True) v0_ r1 ∧ Below w.heap.size w w' := by
 have hu92 := Tryd.underlying92
 have HR0 := Aside0.mk hr0
 have HC0 := Aside0.mk hc0
 clear hr0 hc0
 have HB := Aside0.mk (Below.refl w.heap.size w)
 have H := h
 clear h
 unfold spec_DrawFirstSlot.f at H
 replace H := Option.bind_eq_some_iff.mp H
 obtain ⟨⟨t452, t455, t456⟩, A20, H⟩ := H
 replace H : ((spec_l1Cur_cave22.f l0 t455 t456).bind fun bt457 => ((spec_l1Cur_day22.f l0 bt457.2.1 bt457.2.2).bind fun bt460 => ((some (([1, 3, 10, 100, 0, 101] : List Int) : List Int)).bind fun y463 => ((spec_l1Cur_pick.f l0 bt460.2.1 bt460.2.2 24).bind fun bt466 => (if 0 ≤ (wrap64 (4 + (wrap64 (Int.tdiv bt466.1 11)))) then (if (wrap64 (4 + (wrap64 (Int.tdiv bt466.1 11)))) ≤ (y463.length : Int) then ((spec_l1Cur_among.f l0 bt466.2.1 bt466.2.2 (y463.take ((wrap64 (4 + (wrap64 (Int.tdiv bt466.1 11)))) : Int).toNat)).bind fun bt473 => (some (t452, bt457.1, bt460.1, bt473.1))) else (none)) else (none)))))) = some (r1, r2, r3, r4) := H
 have A2 := Aside0.mk A20
 clear A20
 replace H := Option.bind_eq_some_iff.mp H
 obtain ⟨⟨t457, t458, t459⟩, A30, H⟩ := H
 replace H : ((spec_l1Cur_day22.f l0 t458 t459).bind fun bt460 => ((some (([1, 3, 10, 100, 0, 101] : List Int) : List Int)).bind fun y463 => ((spec_l1Cur_pick.f l0 bt460.2.1 bt460.2.2 24).bind fun bt466 => (if 0 ≤ (wrap64 (4 + (wrap64 (Int.tdiv bt466.1 11)))) then (if (wrap64 (4 + (wrap64 (Int.tdiv bt466.1 11)))) ≤ (y463.length : Int) then ((spec_l1Cur_among.f l0 bt466.2.1 bt466.2.2 (y463.take ((wrap64 (4 + (wrap64 (Int.tdiv bt466.1 11)))) : Int).toNat)).bind fun bt473 => (some (t452, t457, bt460.1, bt473.1))) else (none)) else (none))))) = some (r1, r2, r3, r4) := H
 have A3 := Aside0.mk A30
 clear A30
 replace H := Option.bind_eq_some_iff.mp H
 obtain ⟨⟨t460, t461, t462⟩, A40, H⟩ := H
 replace H : ((some (([1, 3, 10, 100, 0, 101] : List Int) : List Int)).bind fun y463 => ((spec_l1Cur_pick.f l0 t461 t462 24).bind fun bt466 => (if 0 ≤ (wrap64 (4 + (wrap64 (Int.tdiv bt466.1 11)))) then (if (wrap64 (4 + (wrap64 (Int.tdiv bt466.1 11)))) ≤ (y463.length : Int) then ((spec_l1Cur_among.f l0 bt466.2.1 bt466.2.2 (y463.take ((wrap64 (4 + (wrap64 (Int.tdiv bt466.1 11)))) : Int).toNat)).bind fun bt473 => (some (t452, t457, t460, bt473.1))) else (none)) else (none)))) = some (r1, r2, r3, r4) := H
 have A4 := Aside0.mk A40
 clear A40
 obtain ⟨y463, hy463⟩ : ∃ y_ : List Int, y_ = (([1, 3, 10, 100, 0, 101] : List Int)) := ⟨_, rfl⟩
 replace H : ((spec_l1Cur_pick.f l0 t461 t462 24).bind fun bt466 => (if 0 ≤ (wrap64 (4 + (wrap64 (Int.tdiv bt466.1 11)))) then (if (wrap64 (4 + (wrap64 (Int.tdiv bt466.1 11)))) ≤ (y463.length : Int) then ((spec_l1Cur_among.f l0 bt466.2.1 bt466.2.2 (y463.take ((wrap64 (4 + (wrap64 (Int.tdiv bt466.1 11)))) : Int).toNat)).bind fun bt473 => (some (t452, t457, t460, bt473.1))) else (none)) else (none))) = some (r1, r2, r3, r4) := by first | (rw [hy463]; with_reducible exact H) | (have H2_ := (Option.bind_some _ _).symm.trans H; rw [hy463]; with_reducible exact H2_) | (have H2_ := (Option.bind_some _ _).symm.trans H; with_reducible exact H2_) | with_reducible exact H | (rw [hy463]; exact H) | exact H
 have Ny463 := Aside0.mk hy463
 clear hy463
 replace H := Option.bind_eq_some_iff.mp H
 obtain ⟨⟨t466, t467, t468⟩, A50, H⟩ := H
 replace H : (if 0 ≤ (wrap64 (4 + (wrap64 (Int.tdiv t466 11)))) then (if (wrap64 (4 + (wrap64 (Int.tdiv t466 11)))) ≤ (y463.length : Int) then ((spec_l1Cur_among.f l0 t467 t468 (y463.take ((wrap64 (4 + (wrap64 (Int.tdiv t466 11)))) : Int).toNat)).bind fun bt473 => (some (t452, t457, t460, bt473.1))) else (none)) else (none)) = some (r1, r2, r3, r4) := H
 have A5 := Aside0.mk A50
 clear A50
 obtain ⟨ji6, hji6⟩ : ∃ j_ : Int, (wrap64 (4 + (wrap64 (Int.tdiv t466 11)))) = j_ := ⟨_, rfl⟩
 replace H : (if 0 ≤ (ji6) then (if (ji6) ≤ (y463.length : Int) then ((spec_l1Cur_among.f l0 t467 t468 (y463.take ((ji6) : Int).toNat)).bind fun bt473 => (some (t452, t457, t460, bt473.1))) else (none)) else (none)) = some (r1, r2, r3, r4) := by first | (rw [hji6] at H; exact H) | (simp only [hji6] at H ⊢; exact H)
 (try rw [hji6] at A2)
 (try rw [hji6] at A3)
 (try rw [hji6] at A4)
 (try rw [hji6] at A5)
 have hji6w : (IntKind.i64.wrap (4 + (wrap64 (Int.tdiv t466 11)))) = ji6 := (i64_w _).trans hji6
 by_cases c7 : 0 ≤ (ji6)
 ·rw [if_pos c7] at H
  have c7b0 := eq_true c7
  have c7b1 : decide (0 ≤ (ji6)) = true := decide_eq_true c7
  clear c7
  by_cases c8 : (ji6) ≤ (y463.length : Int)
  ·rw [if_pos c8] at H
   have c8b0 := eq_true c8
   have c8b1 : decide ((ji6) ≤ (y463.length : Int)) = true := decide_eq_true c8
   clear c8
   obtain ⟨y469, hy469⟩ : ∃ y_ : List Int, y_ = (y463.take ((ji6) : Int).toNat) := ⟨_, rfl⟩
   replace H : ((spec_l1Cur_among.f l0 t467 t468 y469).bind fun bt473 => (some (t452, t457, t460, bt473.1))) = some (r1, r2, r3, r4) := by first | (rw [hy469]; with_reducible exact H) | (have H2_ := (Option.bind_some _ _).symm.trans H; rw [hy469]; with_reducible exact H2_) | (have H2_ := (Option.bind_some _ _).symm.trans H; with_reducible exact H2_) | with_reducible exact H | (rw [hy469]; exact H) | exact H
   have Ny469 := Aside0.mk hy469
   clear hy469
   replace H := Option.bind_eq_some_iff.mp H
   obtain ⟨⟨t473, t474, t475⟩, A90, H⟩ := H
   replace H : (some (t452, t457, t460, t473)) = some (r1, r2, r3, r4) := H
   have A9 := Aside0.mk A90
   clear A90
   simp only [Option.some.injEq, Prod.mk.injEq] at H
   obtain ⟨rfl, rfl, rfl, rfl⟩ := H
   go_enter Tryd.func50, Tryd.ntmps50
   go_wp2_with (first | ((with_reducible refine gD 10 ?_); refine bxE 10 92 #[.slice A0 l0.length c0, .int .i64 0, .int .u64 0] fun gb451 w10 hg hbox hb => ?_; have GE451 := gB HB hg; have HI451 := Aside0.mk ((⟨_, _, hbox, (by rw [hg]; exact (below_size (bW HB)) : w.heap.size ≤ gb451), HR0.out⟩ : IsS92 w w10 gb451 l0 0 0)); replace HB := uB HB hb; clear hb hbox hg) | ((with_reducible refine gate_callee (f := 81) rfl ?_); refine goesL_ (some 12) rfl rfl Tryd.func81 (by kernel_rfl) rfl #[.pointer (some ⟨gb451, 0, none⟩)] rfl argsB ?_; (with_reducible refine (spec_l1Cur_permits.calls k gb451 l0 0 0 t452 t455 t456 w _ ?side1 ?side2 A2.out).mono ?_); (case side1 => repeat (first | (with_reducible first | exact HI451.out | apply IsS92.alloc | apply IsS92.drewN | apply IsS92.drew | apply IsS92.set_1 | apply IsS92.set_2) | exact HI451.out)); (case side2 => repeat (first | (with_reducible first | exact HB.out | apply below_alloc | apply pw_below_drewN | apply below_drew1 | refine below_set ?_ (IsS92.ge HI451.out)) | exact HB.out)); rintro e w11 ⟨v453, rfl, ho0, hi, hb, hk⟩; refine ⟨_, rfl, ?_⟩; have HO454 := Aside0.mk (Kd.R_lower ho0 (below_size (by repeat (first | (with_reducible first | exact HB.out | apply below_alloc | apply pw_below_drewN | apply below_drew1 | refine below_set ?_ (IsS92.ge HI451.out)) | exact HB.out)))); replace HB := Aside0.mk (hb); replace HI451 := Aside0.mk (hi); (try clear hb); (try clear hk); (try clear hi); (try clear ho0)) | ((with_reducible refine gate_callee (f := 87) rfl ?_); refine goesL_ (some 15) rfl rfl Tryd.func87 (by kernel_rfl) rfl #[.pointer (some ⟨gb451, 0, none⟩)] rfl argsB ?_; (with_reducible refine (spec_l1Cur_cave22.calls gb451 l0 t455 t456 t457 t458 t459 w _ ?side1 ?side2 A3.out).mono ?_); (case side1 => repeat (first | (with_reducible first | exact HI451.out | apply IsS92.alloc | apply IsS92.drewN | apply IsS92.drew | apply IsS92.set_1 | apply IsS92.set_2) | exact HI451.out)); (case side2 => repeat (first | (with_reducible first | exact HB.out | apply below_alloc | apply pw_below_drewN | apply below_drew1 | refine below_set ?_ (IsS92.ge HI451.out)) | exact HB.out)); rintro e w12 ⟨rfl, hi, hb, hk⟩; refine ⟨_, rfl, ?_⟩; replace HO454 := Aside0.mk (Kd.R_mono (Kd.R_keep (IsS92.apart (show IsS92 w _ gb451 l0 t455 t456 from by repeat (first | (with_reducible first | exact HI451.out | apply IsS92.alloc | apply IsS92.drewN | apply IsS92.drew | apply IsS92.set_1 | apply IsS92.set_2) | exact HI451.out)) (upR HO454.out) (by decide)) hk (fun _ h => h.2)) (fun _ h => h.1)); replace HB := Aside0.mk (hb); replace HI451 := Aside0.mk (hi); (try clear hb); (try clear hk); (try clear hi)) | ((with_reducible refine gate_callee (f := 84) rfl ?_); refine goesL_ (some 17) rfl rfl Tryd.func84 (by kernel_rfl) rfl #[.pointer (some ⟨gb451, 0, none⟩)] rfl argsB ?_; (with_reducible refine (spec_l1Cur_day22.calls gb451 l0 t458 t459 t460 t461 t462 w _ ?side1 ?side2 A4.out).mono ?_); (case side1 => repeat (first | (with_reducible first | exact HI451.out | apply IsS92.alloc | apply IsS92.drewN | apply IsS92.drew | apply IsS92.set_1 | apply IsS92.set_2) | exact HI451.out)); (case side2 => repeat (first | (with_reducible first | exact HB.out | apply below_alloc | apply pw_below_drewN | apply below_drew1 | refine below_set ?_ (IsS92.ge HI451.out)) | exact HB.out)); rintro e w13 ⟨rfl, hi, hb, hk⟩; refine ⟨_, rfl, ?_⟩; replace HO454 := Aside0.mk (Kd.R_mono (Kd.R_keep (IsS92.apart (show IsS92 w _ gb451 l0 t458 t459 from by repeat (first | (with_reducible first | exact HI451.out | apply IsS92.alloc | apply IsS92.drewN | apply IsS92.drew | apply IsS92.set_1 | apply IsS92.set_2) | exact HI451.out)) (upR HO454.out) (by decide)) hk (fun _ h => h.2)) (fun _ h => h.1)); replace HB := Aside0.mk (hb); replace HI451 := Aside0.mk (hi); (try clear hb); (try clear hk); (try clear hi)) | ((with_reducible refine gate_dst (N := 19) rfl ?_); refine Kd.R_lit (Kd.int .i64) _ 3 ?hg (N := 19) ?hd (xs := ([1, 3, 10, 100, 0, 101] : List Int)) (inner := [.int .i64 1, .int .i64 3, .int .i64 10, .int .i64 100, .int .i64 0, .int .i64 101]) (ok := fun _ => True) (okp := fun _ => True) ?hr ?hp (fun _ hk => hk) trivial (Below.refl _ _) (Nat.le_refl _) (by simp) ?_; (case hd => rfl); (case hg => rfl); (case hr => first | (go_simp; done) | (go_simp; rfl)); (case hp => exact (Reps.one (show Kd.M (Kd.int .i64) _ _ _ 1 [.int .i64 1] from rfl) (Reps.one (show Kd.M (Kd.int .i64) _ _ _ 3 [.int .i64 3] from rfl) (Reps.one (show Kd.M (Kd.int .i64) _ _ _ 10 [.int .i64 10] from rfl) (Reps.one (show Kd.M (Kd.int .i64) _ _ _ 100 [.int .i64 100] from rfl) (Reps.one (show Kd.M (Kd.int .i64) _ _ _ 0 [.int .i64 0] from rfl) (Reps.one (show Kd.M (Kd.int .i64) _ _ _ 101 [.int .i64 101] from rfl) (Reps.none _ _)))))))); intro v464 w14 ho15 hb hg_ hnew_; clear hg_ hnew_; (first | rw [← Ny463.out] at ho15 | (simp only [Int.reduceToNat] at ho15; rw [← Ny463.out] at ho15)); have HO465 := Aside0.mk (Kd.R_lower ho15 (below_size (by repeat (first | (with_reducible first | exact HB.out | apply below_alloc | apply pw_below_drewN | apply below_drew1 | refine below_set ?_ (IsS92.ge HI451.out)) | exact HB.out)))); replace HO454 := uR HO454 hb; replace HB := Aside0.mk (below_step (by repeat (first | (with_reducible first | exact HB.out | apply below_alloc | apply pw_below_drewN | apply below_drew1 | refine below_set ?_ (IsS92.ge HI451.out)) | exact HB.out)) hb); replace HI451 := Aside0.mk (IsS92.below (by repeat (first | (with_reducible first | exact HI451.out | apply IsS92.alloc | apply IsS92.drewN | apply IsS92.drew | apply IsS92.set_1 | apply IsS92.set_2) | exact HI451.out)) hb); clear hb ho15) | ((with_reducible refine gate_callee (f := 86) rfl ?_); refine goesL_ (some 21) rfl rfl Tryd.func86 (by kernel_rfl) rfl #[.pointer (some ⟨gb451, 0, none⟩), .int .i64 24] rfl argsB ?_; (with_reducible refine (spec_l1Cur_pick.calls gb451 l0 t461 t462 24 t466 t467 t468 w _ ?side1 ?side2 A5.out).mono ?_); (case side1 => repeat (first | (with_reducible first | exact HI451.out | apply IsS92.alloc | apply IsS92.drewN | apply IsS92.drew | apply IsS92.set_1 | apply IsS92.set_2) | exact HI451.out)); (case side2 => repeat (first | (with_reducible first | exact HB.out | apply below_alloc | apply pw_below_drewN | apply below_drew1 | refine below_set ?_ (IsS92.ge HI451.out)) | exact HB.out)); rintro e w16 ⟨rfl, hi, hb, hk⟩; refine ⟨_, rfl, ?_⟩; replace HO454 := Aside0.mk (Kd.R_mono (Kd.R_keep (IsS92.apart (show IsS92 w _ gb451 l0 t461 t462 from by repeat (first | (with_reducible first | exact HI451.out | apply IsS92.alloc | apply IsS92.drewN | apply IsS92.drew | apply IsS92.set_1 | apply IsS92.set_2) | exact HI451.out)) (upR HO454.out) (by decide)) hk (fun _ h => h.2)) (fun _ h => h.1)); replace HO465 := Aside0.mk (Kd.R_mono (Kd.R_keep (IsS92.apart (show IsS92 w _ gb451 l0 t461 t462 from by repeat (first | (with_reducible first | exact HI451.out | apply IsS92.alloc | apply IsS92.drewN | apply IsS92.drew | apply IsS92.set_1 | apply IsS92.set_2) | exact HI451.out)) (upR HO465.out) (by decide)) hk (fun _ h => h.2)) (fun _ h => h.1)); replace HB := Aside0.mk (hb); replace HI451 := Aside0.mk (hi); (try clear hb); (try clear hk); (try clear hi); obtain ⟨Ao18, co18, eo18⟩ := Kd.R_slice HO465.out; subst eo18; have q17 : ((ji6) : Int) ≤ ((y463.length : Int) : Int) := of_decide_eq_true asmB; obtain ⟨i017, hi017, _, hsz17, _⟩ := info_parts info3; have hroom17 : y463.length ≤ co18 := (Kd.R_reads' HO465.out).2.1; have hC17 : Kd.C (Kd.int .i64) _ Ao18 y463.length y463 := (Kd.R_reads' HO465.out).2.2; have hcut17 := cut_to (P := Tryd.prog) 68 3 .i64 Tryd.underlying68 hi017 Ao18 y463.length co18 (ji6) (of_decide_eq_true asmB) q17 hroom17; have hr17 := Kd.C_take (m := ((ji6) : Int).toNat) hC17 (by omega); have hy17 : y469.length = ((ji6) : Int).toNat := (by rw [Ny469.out, List.length_take]; omega); rw [← Ny469.out] at hr17; rw [← hy17] at hcut17; have HR472 := Aside0.mk hr17; have HC472 := Aside0.mk (show y469.length ≤ co18 from by omega); clear hr17 hC17 hroom17 hi017 hsz17; have KY17 := Aside0.mk hy17; clear hy17; have KL17 := Aside0.mk (show ((ji6) : Int).toNat ≤ y463.length from by omega); replace q17 := eq_true q17) | ((with_reducible refine gate_callee (f := 85) rfl ?_); refine goesL_ (some 25) rfl rfl Tryd.func85 (by kernel_rfl) rfl #[.pointer (some ⟨gb451, 0, none⟩), .slice Ao18 y469.length co18] rfl argsB ?_; (with_reducible refine (spec_l1Cur_among.calls gb451 l0 t467 t468 _ _ y469 t473 t474 t475 w _ ?side1 ?side2 ?side3 ?side4 ?side5 A9.out).mono ?_); (case side1 => repeat (first | (with_reducible first | exact HI451.out | apply IsS92.alloc | apply IsS92.drewN | apply IsS92.drew | apply IsS92.set_1 | apply IsS92.set_2) | exact HI451.out)); (case side2 => repeat (first | (with_reducible first | exact HB.out | apply below_alloc | apply pw_below_drewN | apply below_drew1 | refine below_set ?_ (IsS92.ge HI451.out)) | exact HB.out)); (case side3 => repeat (first | exact (by repeat (first | (with_reducible exact HR472.out) | (with_reducible refine Kd.C_alloc ?_ _) | (with_reducible refine Kd.C_drewN ?_ _) | (with_reducible refine Kd.C_drew ?_) | exact HR472.out)) | (with_reducible refine Kd.C_alloc ?_ _) | (with_reducible refine Kd.C_drewN ?_ _) | (with_reducible refine Kd.C_drew ?_))); (case side4 => exact HC472.out); (case side5 => exact (by rintro ad rfl _ rfl; exact IsS92.own_ne HI451.out HO465.out (by decide) (by simp [Value.ownBlock]))); rintro e w19 ⟨rfl, hi, hb, hk⟩; refine ⟨_, rfl, ?_⟩; replace HO454 := Aside0.mk (Kd.R_mono (Kd.R_keep (IsS92.apart (show IsS92 w _ gb451 l0 t467 t468 from by repeat (first | (with_reducible first | exact HI451.out | apply IsS92.alloc | apply IsS92.drewN | apply IsS92.drew | apply IsS92.set_1 | apply IsS92.set_2) | exact HI451.out)) (upR HO454.out) (by decide)) hk (fun _ h => h.2)) (fun _ h => h.1)); replace HO465 := Aside0.mk (Kd.R_mono (Kd.R_keep (IsS92.apart (show IsS92 w _ gb451 l0 t467 t468 from by repeat (first | (with_reducible first | exact HI451.out | apply IsS92.alloc | apply IsS92.drewN | apply IsS92.drew | apply IsS92.set_1 | apply IsS92.set_2) | exact HI451.out)) (upR HO465.out) (by decide)) hk (fun _ h => h.2)) (fun _ h => h.1)); replace HB := Aside0.mk (hb); replace HI451 := Aside0.mk (hi); (try clear hb); (try clear hk); (try clear hi)))
   refine bodyPost_ret (results_list (rs := [.tmp 2, .tmp 3, .tmp 4, .tmp 5]) rfl (by simp) (.tmp (.tmp (.tmp (.tmp .nil))))) rfl ?_
   exact ⟨_, by first | rfl | (simp [errW_none, errW_some] <;> rfl) | (simp only [← hji6]; first | rfl | (simp [errW_none, errW_some] <;> rfl)) | (simp [*, errW_none, errW_some] <;> rfl), upR HO454.out, by repeat (first | (with_reducible first | exact HB.out | apply below_alloc | apply pw_below_drewN | apply below_drew1 | refine below_set ?_ (IsS92.ge HI451.out)) | exact HB.out)⟩
  ·rw [if_neg c8] at H
   exact absurd H (by simp)
 ·rw [if_neg c7] at H
  exact absurd H (by simp)

/-! ### spec_DrawAskPermit: function 51 -/
def spec_DrawAskPermit.f (k : Nat) (l0 : List Int) : Option ((List (S26)) × ByteArray × Int × Int × Int) := (spec_l1Cur_permits.f k l0 0 0).bind fun bt477 => ((spec_l1Cur_permit.f l0 bt477.2.1 bt477.2.2 1).bind fun bt482 => (some (bt477.1, bt482.2.1, bt482.2.2.1, bt482.2.2.2.1, bt482.2.2.2.2.1)))
theorem spec_DrawAskPermit.mono : ∀ a0 k, LeO (spec_DrawAskPermit.f k a0) (spec_DrawAskPermit.f (k + 1) a0) := by
 intro a0 k
 unfold spec_DrawAskPermit.f
 repeat' with_reducible first | apply spec_l1Cur_permits.mono | exact LeO.refl _ | exact LeO.none _ | refine LeO.ite ?_ ?_ | refine LeO.bind ?_ (fun _ => ?_)
set_option maxHeartbeats 8000000 in
set_option maxRecDepth 100000 in
theorem spec_DrawAskPermit.calls (k : Nat) (A0 : Option Addr) (c0 : Nat) (l0 : List Int) (r1 : List (S26)) (r2 : ByteArray) (r3 r4 r5 : Int) (w : World) (hr0 : Kd.C (Kd.int .u8) w A0 l0.length l0) (hc0 : l0.length ≤ c0) (h : spec_DrawAskPermit.f k l0 = some (r1, r2, r3, r4, r5)) :
  Calls Tryd.prog 51 #[.slice A0 l0.length c0] w fun e w' => ∃ v0_ : Value, e = .returned (.tuple #[v0_, .string r2, .int .i64 r3, .int .i64 r4, .int .i64 r5]) ∧ Kd.R k26 26 w' w.heap.size (fun _ => True) v0_ r1 ∧ Below w.heap.size w w' := by
 have hu92 := Tryd.underlying92
 have hu26 := Tryd.underlying26
 have HR0 := Aside0.mk hr0
 have HC0 := Aside0.mk hc0
 clear hr0 hc0
 have HB := Aside0.mk (Below.refl w.heap.size w)
 have H := h
 clear h
 unfold spec_DrawAskPermit.f at H
 replace H := Option.bind_eq_some_iff.mp H
 obtain ⟨⟨t477, t480, t481⟩, A20, H⟩ := H
 replace H : ((spec_l1Cur_permit.f l0 t480 t481 1).bind fun bt482 => (some (t477, bt482.2.1, bt482.2.2.1, bt482.2.2.2.1, bt482.2.2.2.2.1))) = some (r1, r2, r3, r4, r5) := H
 have A2 := Aside0.mk A20
 clear A20
 replace H := Option.bind_eq_some_iff.mp H
 obtain ⟨⟨t482, t483, t484, t485, t486, t487, t488, t489⟩, A30, H⟩ := H
 replace H : (some (t477, t483, t484, t485, t486)) = some (r1, r2, r3, r4, r5) := H
 have A3 := Aside0.mk A30
 clear A30
 simp only [Option.some.injEq, Prod.mk.injEq] at H
 obtain ⟨rfl, rfl, rfl, rfl, rfl⟩ := H
 go_enter Tryd.func51, Tryd.ntmps51
 go_wp2_with (first | ((with_reducible refine gD 12 ?_); refine bxE 12 92 #[.slice A0 l0.length c0, .int .i64 0, .int .u64 0] fun gb476 w4 hg hbox hb => ?_; have GE476 := gB HB hg; have HI476 := Aside0.mk ((⟨_, _, hbox, (by rw [hg]; exact (below_size (bW HB)) : w.heap.size ≤ gb476), HR0.out⟩ : IsS92 w w4 gb476 l0 0 0)); replace HB := uB HB hb; clear hb hbox hg) | (go_at_call 81; (with_reducible refine (spec_l1Cur_permits.calls k gb476 l0 0 0 t477 t480 t481 w _ ?side1 ?side2 A2.out).mono ?_); (case side1 => repeat (first | (with_reducible first | exact HI476.out | apply IsS92.alloc | apply IsS92.drewN | apply IsS92.drew | apply IsS92.set_1 | apply IsS92.set_2) | exact HI476.out)); (case side2 => repeat (first | (with_reducible first | exact HB.out | apply below_alloc | apply pw_below_drewN | apply below_drew1 | refine below_set ?_ (IsS92.ge HI476.out)) | exact HB.out)); rintro e w5 ⟨v478, rfl, ho0, hi, hb, hk⟩; have HO479 := Aside0.mk (Kd.R_lower ho0 (below_size (by repeat (first | (with_reducible first | exact HB.out | apply below_alloc | apply pw_below_drewN | apply below_drew1 | refine below_set ?_ (IsS92.ge HI476.out)) | exact HB.out)))); replace HB := Aside0.mk (hb); replace HI476 := Aside0.mk (hi); (try clear hb); (try clear hk); (try clear hi); (try clear ho0)) | (go_at_call 89; (with_reducible refine (spec_l1Cur_permit.calls gb476 l0 t480 t481 1 t482 t483 t484 t485 t486 t487 t488 t489 w _ ?side1 ?side2 A3.out).mono ?_); (case side1 => repeat (first | (with_reducible first | exact HI476.out | apply IsS92.alloc | apply IsS92.drewN | apply IsS92.drew | apply IsS92.set_1 | apply IsS92.set_2) | exact HI476.out)); (case side2 => repeat (first | (with_reducible first | exact HB.out | apply below_alloc | apply pw_below_drewN | apply below_drew1 | refine below_set ?_ (IsS92.ge HI476.out)) | exact HB.out)); rintro e w6 ⟨rfl, hi, hb, hk⟩; replace HO479 := Aside0.mk (Kd.R_mono (Kd.R_keep (IsS92.apart (show IsS92 w _ gb476 l0 t480 t481 from by repeat (first | (with_reducible first | exact HI476.out | apply IsS92.alloc | apply IsS92.drewN | apply IsS92.drew | apply IsS92.set_1 | apply IsS92.set_2) | exact HI476.out)) (upR HO479.out) (by decide)) hk (fun _ h => h.2)) (fun _ h => h.1)); replace HB := Aside0.mk (hb); replace HI476 := Aside0.mk (hi); (try clear hb); (try clear hk); (try clear hi)) | ((with_reducible refine gD 9 ?_); refine bxE 9 26 #[.int .i64 0, .string (⟨#[]⟩ : ByteArray), .int .i64 0, .int .i64 0, .int .i64 0, .int .i64 0] fun gb490 w7 hg hbox hb => ?_; have BK490 := Aside0.mk hbox; have GE490 := Aside0.mk ((by rw [hg]; exact (below_size (by repeat (first | (with_reducible first | exact HB.out | apply below_alloc | apply pw_below_drewN | apply below_drew1 | refine below_set ?_ (IsS92.ge HI476.out)) | exact HB.out))) : w.heap.size ≤ gb490)); have NB476_490 := Aside0.mk ((by rw [hg]; exact Nat.ne_of_lt (IsS92.lt (show IsS92 w _ gb476 l0 t488 t489 from by repeat (first | (with_reducible first | exact HI476.out | apply IsS92.alloc | apply IsS92.drewN | apply IsS92.drew | apply IsS92.set_1 | apply IsS92.set_2) | exact HI476.out))) : gb476 ≠ gb490)); have NB490_476 := Aside0.mk ((by rw [hg]; exact Nat.ne_of_gt (IsS92.lt (show IsS92 w _ gb476 l0 t488 t489 from by repeat (first | (with_reducible first | exact HI476.out | apply IsS92.alloc | apply IsS92.drewN | apply IsS92.drew | apply IsS92.set_1 | apply IsS92.set_2) | exact HI476.out))) : gb490 ≠ gb476)); replace HO479 := Aside0.mk (Kd.R_below (Kd.R_elderB (upR HO479.out) gb490 (Nat.le_of_eq hg.symm)) hb); replace HB := Aside0.mk (below_step (by repeat (first | (with_reducible first | exact HB.out | apply below_alloc | apply pw_below_drewN | apply below_drew1 | refine below_set ?_ (IsS92.ge HI476.out)) | exact HB.out)) hb); replace HI476 := Aside0.mk (IsS92.below (by repeat (first | (with_reducible first | exact HI476.out | apply IsS92.alloc | apply IsS92.drewN | apply IsS92.drew | apply IsS92.set_1 | apply IsS92.set_2) | exact HI476.out)) hb); clear hb hbox hg; have hnb8 := NB490_476.out; have hnc8 := NB476_490.out; have hcz9_0 := ci BK490.out 0 0 rfl; have hcz9_1 : w7.cell? ⟨gb490, 1, none⟩ = some (.string (⟨#[]⟩ : ByteArray)) := cb BK490 1; have hcz9_2 := ci BK490.out 2 0 rfl; have hcz9_3 := ci BK490.out 3 0 rfl; have hcz9_4 := ci BK490.out 4 0 rfl; have hcz9_5 := ci BK490.out 5 0 rfl; have hfz9_0 := fun j_ : Nat => blk_frozen BK490.out j_))
 repeat (go_quiet (first | ((with_reducible refine gD 12 ?_); refine bxE 12 92 #[.slice A0 l0.length c0, .int .i64 0, .int .u64 0] fun gb476 w4 hg hbox hb => ?_; have GE476 := gB HB hg; have HI476 := Aside0.mk ((⟨_, _, hbox, (by rw [hg]; exact (below_size (bW HB)) : w.heap.size ≤ gb476), HR0.out⟩ : IsS92 w w4 gb476 l0 0 0)); replace HB := uB HB hb; clear hb hbox hg) | (go_at_call 81; (with_reducible refine (spec_l1Cur_permits.calls k gb476 l0 0 0 t477 t480 t481 w _ ?side1 ?side2 A2.out).mono ?_); (case side1 => repeat (first | (with_reducible first | exact HI476.out | apply IsS92.alloc | apply IsS92.drewN | apply IsS92.drew | apply IsS92.set_1 | apply IsS92.set_2) | exact HI476.out)); (case side2 => repeat (first | (with_reducible first | exact HB.out | apply below_alloc | apply pw_below_drewN | apply below_drew1 | refine below_set ?_ (IsS92.ge HI476.out)) | exact HB.out)); rintro e w5 ⟨v478, rfl, ho0, hi, hb, hk⟩; have HO479 := Aside0.mk (Kd.R_lower ho0 (below_size (by repeat (first | (with_reducible first | exact HB.out | apply below_alloc | apply pw_below_drewN | apply below_drew1 | refine below_set ?_ (IsS92.ge HI476.out)) | exact HB.out)))); replace HB := Aside0.mk (hb); replace HI476 := Aside0.mk (hi); (try clear hb); (try clear hk); (try clear hi); (try clear ho0)) | (go_at_call 89; (with_reducible refine (spec_l1Cur_permit.calls gb476 l0 t480 t481 1 t482 t483 t484 t485 t486 t487 t488 t489 w _ ?side1 ?side2 A3.out).mono ?_); (case side1 => repeat (first | (with_reducible first | exact HI476.out | apply IsS92.alloc | apply IsS92.drewN | apply IsS92.drew | apply IsS92.set_1 | apply IsS92.set_2) | exact HI476.out)); (case side2 => repeat (first | (with_reducible first | exact HB.out | apply below_alloc | apply pw_below_drewN | apply below_drew1 | refine below_set ?_ (IsS92.ge HI476.out)) | exact HB.out)); rintro e w6 ⟨rfl, hi, hb, hk⟩; replace HO479 := Aside0.mk (Kd.R_mono (Kd.R_keep (IsS92.apart (show IsS92 w _ gb476 l0 t480 t481 from by repeat (first | (with_reducible first | exact HI476.out | apply IsS92.alloc | apply IsS92.drewN | apply IsS92.drew | apply IsS92.set_1 | apply IsS92.set_2) | exact HI476.out)) (upR HO479.out) (by decide)) hk (fun _ h => h.2)) (fun _ h => h.1)); replace HB := Aside0.mk (hb); replace HI476 := Aside0.mk (hi); (try clear hb); (try clear hk); (try clear hi)) | ((with_reducible refine gD 9 ?_); refine bxE 9 26 #[.int .i64 0, .string (⟨#[]⟩ : ByteArray), .int .i64 0, .int .i64 0, .int .i64 0, .int .i64 0] fun gb490 w7 hg hbox hb => ?_; have BK490 := Aside0.mk hbox; have GE490 := Aside0.mk ((by rw [hg]; exact (below_size (by repeat (first | (with_reducible first | exact HB.out | apply below_alloc | apply pw_below_drewN | apply below_drew1 | refine below_set ?_ (IsS92.ge HI476.out)) | exact HB.out))) : w.heap.size ≤ gb490)); have NB476_490 := Aside0.mk ((by rw [hg]; exact Nat.ne_of_lt (IsS92.lt (show IsS92 w _ gb476 l0 t488 t489 from by repeat (first | (with_reducible first | exact HI476.out | apply IsS92.alloc | apply IsS92.drewN | apply IsS92.drew | apply IsS92.set_1 | apply IsS92.set_2) | exact HI476.out))) : gb476 ≠ gb490)); have NB490_476 := Aside0.mk ((by rw [hg]; exact Nat.ne_of_gt (IsS92.lt (show IsS92 w _ gb476 l0 t488 t489 from by repeat (first | (with_reducible first | exact HI476.out | apply IsS92.alloc | apply IsS92.drewN | apply IsS92.drew | apply IsS92.set_1 | apply IsS92.set_2) | exact HI476.out))) : gb490 ≠ gb476)); replace HO479 := Aside0.mk (Kd.R_below (Kd.R_elderB (upR HO479.out) gb490 (Nat.le_of_eq hg.symm)) hb); replace HB := Aside0.mk (below_step (by repeat (first | (with_reducible first | exact HB.out | apply below_alloc | apply pw_below_drewN | apply below_drew1 | refine below_set ?_ (IsS92.ge HI476.out)) | exact HB.out)) hb); replace HI476 := Aside0.mk (IsS92.below (by repeat (first | (with_reducible first | exact HI476.out | apply IsS92.alloc | apply IsS92.drewN | apply IsS92.drew | apply IsS92.set_1 | apply IsS92.set_2) | exact HI476.out)) hb); clear hb hbox hg; have hnb8 := NB490_476.out; have hnc8 := NB476_490.out; have hcz9_0 := ci BK490.out 0 0 rfl; have hcz9_1 : w7.cell? ⟨gb490, 1, none⟩ = some (.string (⟨#[]⟩ : ByteArray)) := cb BK490 1; have hcz9_2 := ci BK490.out 2 0 rfl; have hcz9_3 := ci BK490.out 3 0 rfl; have hcz9_4 := ci BK490.out 4 0 rfl; have hcz9_5 := ci BK490.out 5 0 rfl; have hfz9_0 := fun j_ : Nat => blk_frozen BK490.out j_)); try go_wp2_with (first | ((with_reducible refine gD 12 ?_); refine bxE 12 92 #[.slice A0 l0.length c0, .int .i64 0, .int .u64 0] fun gb476 w4 hg hbox hb => ?_; have GE476 := gB HB hg; have HI476 := Aside0.mk ((⟨_, _, hbox, (by rw [hg]; exact (below_size (bW HB)) : w.heap.size ≤ gb476), HR0.out⟩ : IsS92 w w4 gb476 l0 0 0)); replace HB := uB HB hb; clear hb hbox hg) | (go_at_call 81; (with_reducible refine (spec_l1Cur_permits.calls k gb476 l0 0 0 t477 t480 t481 w _ ?side1 ?side2 A2.out).mono ?_); (case side1 => repeat (first | (with_reducible first | exact HI476.out | apply IsS92.alloc | apply IsS92.drewN | apply IsS92.drew | apply IsS92.set_1 | apply IsS92.set_2) | exact HI476.out)); (case side2 => repeat (first | (with_reducible first | exact HB.out | apply below_alloc | apply pw_below_drewN | apply below_drew1 | refine below_set ?_ (IsS92.ge HI476.out)) | exact HB.out)); rintro e w5 ⟨v478, rfl, ho0, hi, hb, hk⟩; have HO479 := Aside0.mk (Kd.R_lower ho0 (below_size (by repeat (first | (with_reducible first | exact HB.out | apply below_alloc | apply pw_below_drewN | apply below_drew1 | refine below_set ?_ (IsS92.ge HI476.out)) | exact HB.out)))); replace HB := Aside0.mk (hb); replace HI476 := Aside0.mk (hi); (try clear hb); (try clear hk); (try clear hi); (try clear ho0)) | (go_at_call 89; (with_reducible refine (spec_l1Cur_permit.calls gb476 l0 t480 t481 1 t482 t483 t484 t485 t486 t487 t488 t489 w _ ?side1 ?side2 A3.out).mono ?_); (case side1 => repeat (first | (with_reducible first | exact HI476.out | apply IsS92.alloc | apply IsS92.drewN | apply IsS92.drew | apply IsS92.set_1 | apply IsS92.set_2) | exact HI476.out)); (case side2 => repeat (first | (with_reducible first | exact HB.out | apply below_alloc | apply pw_below_drewN | apply below_drew1 | refine below_set ?_ (IsS92.ge HI476.out)) | exact HB.out)); rintro e w6 ⟨rfl, hi, hb, hk⟩; replace HO479 := Aside0.mk (Kd.R_mono (Kd.R_keep (IsS92.apart (show IsS92 w _ gb476 l0 t480 t481 from by repeat (first | (with_reducible first | exact HI476.out | apply IsS92.alloc | apply IsS92.drewN | apply IsS92.drew | apply IsS92.set_1 | apply IsS92.set_2) | exact HI476.out)) (upR HO479.out) (by decide)) hk (fun _ h => h.2)) (fun _ h => h.1)); replace HB := Aside0.mk (hb); replace HI476 := Aside0.mk (hi); (try clear hb); (try clear hk); (try clear hi)) | ((with_reducible refine gD 9 ?_); refine bxE 9 26 #[.int .i64 0, .string (⟨#[]⟩ : ByteArray), .int .i64 0, .int .i64 0, .int .i64 0, .int .i64 0] fun gb490 w7 hg hbox hb => ?_; have BK490 := Aside0.mk hbox; have GE490 := Aside0.mk ((by rw [hg]; exact (below_size (by repeat (first | (with_reducible first | exact HB.out | apply below_alloc | apply pw_below_drewN | apply below_drew1 | refine below_set ?_ (IsS92.ge HI476.out)) | exact HB.out))) : w.heap.size ≤ gb490)); have NB476_490 := Aside0.mk ((by rw [hg]; exact Nat.ne_of_lt (IsS92.lt (show IsS92 w _ gb476 l0 t488 t489 from by repeat (first | (with_reducible first | exact HI476.out | apply IsS92.alloc | apply IsS92.drewN | apply IsS92.drew | apply IsS92.set_1 | apply IsS92.set_2) | exact HI476.out))) : gb476 ≠ gb490)); have NB490_476 := Aside0.mk ((by rw [hg]; exact Nat.ne_of_gt (IsS92.lt (show IsS92 w _ gb476 l0 t488 t489 from by repeat (first | (with_reducible first | exact HI476.out | apply IsS92.alloc | apply IsS92.drewN | apply IsS92.drew | apply IsS92.set_1 | apply IsS92.set_2) | exact HI476.out))) : gb490 ≠ gb476)); replace HO479 := Aside0.mk (Kd.R_below (Kd.R_elderB (upR HO479.out) gb490 (Nat.le_of_eq hg.symm)) hb); replace HB := Aside0.mk (below_step (by repeat (first | (with_reducible first | exact HB.out | apply below_alloc | apply pw_below_drewN | apply below_drew1 | refine below_set ?_ (IsS92.ge HI476.out)) | exact HB.out)) hb); replace HI476 := Aside0.mk (IsS92.below (by repeat (first | (with_reducible first | exact HI476.out | apply IsS92.alloc | apply IsS92.drewN | apply IsS92.drew | apply IsS92.set_1 | apply IsS92.set_2) | exact HI476.out)) hb); clear hb hbox hg; have hnb8 := NB490_476.out; have hnc8 := NB476_490.out; have hcz9_0 := ci BK490.out 0 0 rfl; have hcz9_1 : w7.cell? ⟨gb490, 1, none⟩ = some (.string (⟨#[]⟩ : ByteArray)) := cb BK490 1; have hcz9_2 := ci BK490.out 2 0 rfl; have hcz9_3 := ci BK490.out 3 0 rfl; have hcz9_4 := ci BK490.out 4 0 rfl; have hcz9_5 := ci BK490.out 5 0 rfl; have hfz9_0 := fun j_ : Nat => blk_frozen BK490.out j_)))
 refine bodyPost_ret (results_list (rs := [.tmp 2, .tmp 3, .tmp 4, .tmp 5, .tmp 6]) rfl (by simp) (.tmp (.tmp (.tmp (.tmp (.tmp .nil)))))) rfl ?_
 exact ⟨_, eB, by (with_reducible repeat (first | apply Kd.R_alloc | apply Kd.R_drewN | apply Kd.R_drew)); exact Kd.R_mono (Kd.R_far (p := ⟨gb490, 5, none⟩) (Kd.R_far (p := ⟨gb490, 4, none⟩) (Kd.R_far (p := ⟨gb490, 3, none⟩) (Kd.R_far (p := ⟨gb490, 2, none⟩) (Kd.R_far (p := ⟨gb490, 1, none⟩) (Kd.R_far (p := ⟨gb490, 0, none⟩) (Kd.R_mono HO479.out (fun k_ hk => (⟨hk, hk.2⟩ : _ ∧ k_ ≠ gb490))) (fun _ hk => hk.2) (.int .i64 t482)) (fun _ hk => hk.2) (.string t483)) (fun _ hk => hk.2) (.int .i64 t484)) (fun _ hk => hk.2) (.int .i64 t485)) (fun _ hk => hk.2) (.int .i64 t486)) (fun _ hk => hk.2) (.int .i64 t487)) (fun _ hk => trivial), by repeat (first | (with_reducible first | exact HB.out | apply below_alloc | apply pw_below_drewN | apply below_drew1 | refine below_set ?_ (IsS92.ge HI476.out) | refine below_set ?_ GE490.out) | exact HB.out)⟩

/-! ### spec_DrawIsPermit: function 52 -/
def spec_DrawIsPermit.f (l0 : List Int) : Option (Int × ByteArray × Int × Int × Int × Int) := (spec_l1Cur_among.f l0 0 0 (([1, 12, 99] : List Int))).bind fun bt496 => ((spec_l1Cur_permit.f l0 bt496.2.1 bt496.2.2 bt496.1).bind fun bt499 => (some (bt499.1, bt499.2.1, bt499.2.2.1, bt499.2.2.2.1, bt499.2.2.2.2.1, bt499.2.2.2.2.2.1)))
set_option maxHeartbeats 8000000 in
set_option maxRecDepth 100000 in
theorem spec_DrawIsPermit.calls (A0 : Option Addr) (c0 : Nat) (l0 : List Int) (r1 : Int) (r2 : ByteArray) (r3 r4 r5 r6 : Int) (w : World) (hr0 : Kd.C (Kd.int .u8) w A0 l0.length l0) (hc0 : l0.length ≤ c0) (h : spec_DrawIsPermit.f l0 = some (r1, r2, r3, r4, r5, r6)) :
  Calls Tryd.prog 52 #[.slice A0 l0.length c0] w fun e w' => e = .returned (.agg #[.int .i64 r1, .string r2, .int .i64 r3, .int .i64 r4, .int .i64 r5, .int .i64 r6]) ∧ Below w.heap.size w w' := by
 have hu26 := Tryd.underlying26
 have hu92 := Tryd.underlying92
 have HR0 := Aside0.mk hr0
 have HC0 := Aside0.mk hc0
 clear hr0 hc0
 have HB := Aside0.mk (Below.refl w.heap.size w)
 have H := h
 clear h
 unfold spec_DrawIsPermit.f at H
 obtain ⟨y493, hy493⟩ : ∃ y_ : List Int, y_ = (([1, 12, 99] : List Int)) := ⟨_, rfl⟩
 replace H : ((spec_l1Cur_among.f l0 0 0 y493).bind fun bt496 => ((spec_l1Cur_permit.f l0 bt496.2.1 bt496.2.2 bt496.1).bind fun bt499 => (some (bt499.1, bt499.2.1, bt499.2.2.1, bt499.2.2.2.1, bt499.2.2.2.2.1, bt499.2.2.2.2.2.1)))) = some (r1, r2, r3, r4, r5, r6) := by first | (rw [hy493]; with_reducible exact H) | (have H2_ := (Option.bind_some _ _).symm.trans H; rw [hy493]; with_reducible exact H2_) | (have H2_ := (Option.bind_some _ _).symm.trans H; with_reducible exact H2_) | with_reducible exact H | (rw [hy493]; exact H) | exact H
 have Ny493 := Aside0.mk hy493
 clear hy493
 replace H := Option.bind_eq_some_iff.mp H
 obtain ⟨⟨t496, t497, t498⟩, A20, H⟩ := H
 replace H : ((spec_l1Cur_permit.f l0 t497 t498 t496).bind fun bt499 => (some (bt499.1, bt499.2.1, bt499.2.2.1, bt499.2.2.2.1, bt499.2.2.2.2.1, bt499.2.2.2.2.2.1))) = some (r1, r2, r3, r4, r5, r6) := H
 have A2 := Aside0.mk A20
 clear A20
 replace H := Option.bind_eq_some_iff.mp H
 obtain ⟨⟨t499, t500, t501, t502, t503, t504, t505, t506⟩, A30, H⟩ := H
 replace H : (some (t499, t500, t501, t502, t503, t504)) = some (r1, r2, r3, r4, r5, r6) := H
 have A3 := Aside0.mk A30
 clear A30
 simp only [Option.some.injEq, Prod.mk.injEq] at H
 obtain ⟨rfl, rfl, rfl, rfl, rfl, rfl⟩ := H
 go_enter Tryd.func52, Tryd.ntmps52
 go_wp2_with (first | ((with_reducible refine gD 2 ?_); refine bxE 2 26 #[.int .i64 0, .string (⟨#[]⟩ : ByteArray), .int .i64 0, .int .i64 0, .int .i64 0, .int .i64 0] fun gb491 w4 hg hbox hb => ?_; have BK491 := Aside0.mk hbox; have GE491 := gB HB hg; replace HB := uB HB hb; clear hb hbox hg) | ((with_reducible refine gD 6 ?_); refine bxE 6 92 #[.slice A0 l0.length c0, .int .i64 0, .int .u64 0] fun gb492 w5 hg hbox hb => ?_; have GE492 := gB HB hg; have ⟨NB491_492, NB492_491⟩ := nB BK491 hg; have HI492 := Aside0.mk ((⟨_, _, hbox, (by rw [hg]; exact (below_size (bW HB)) : w.heap.size ≤ gb492), HR0.out⟩ : IsS92 w w5 gb492 l0 0 0)); replace BK491 := uK BK491 hb; replace HB := uB HB hb; clear hb hbox hg) | ((with_reducible refine gate_dst (N := 9) rfl ?_); refine Kd.R_lit (Kd.int .i64) _ 3 ?hg (N := 9) ?hd (xs := ([1, 12, 99] : List Int)) (inner := [.int .i64 1, .int .i64 12, .int .i64 99]) (ok := fun _ => True) (okp := fun _ => True) ?hr ?hp (fun _ hk => hk) trivial (Below.refl _ _) (Nat.le_refl _) (by simp) ?_; (case hd => rfl); (case hg => rfl); (case hr => first | (go_simp; done) | (go_simp; rfl)); (case hp => exact (Reps.one (show Kd.M (Kd.int .i64) _ _ _ 1 [.int .i64 1] from rfl) (Reps.one (show Kd.M (Kd.int .i64) _ _ _ 12 [.int .i64 12] from rfl) (Reps.one (show Kd.M (Kd.int .i64) _ _ _ 99 [.int .i64 99] from rfl) (Reps.none _ _))))); intro v494 w6 ho7 hb hg_ hnew_; clear hg_ hnew_; (first | rw [← Ny493.out] at ho7 | (simp only [Int.reduceToNat] at ho7; rw [← Ny493.out] at ho7)); have HO495 := Aside0.mk (Kd.R_lower ho7 (below_size (by repeat (first | (with_reducible first | exact HB.out | apply below_alloc | apply pw_below_drewN | apply below_drew1 | refine below_set ?_ (IsS92.ge HI492.out) | refine below_set ?_ GE491.out) | exact HB.out)))); replace BK491 := uK BK491 hb; replace HB := Aside0.mk (below_step (by repeat (first | (with_reducible first | exact HB.out | apply below_alloc | apply pw_below_drewN | apply below_drew1 | refine below_set ?_ (IsS92.ge HI492.out) | refine below_set ?_ GE491.out) | exact HB.out)) hb); replace HI492 := Aside0.mk (IsS92.below (by repeat (first | (with_reducible first | exact HI492.out | apply IsS92.alloc | apply IsS92.drewN | apply IsS92.drew | apply IsS92.set_1 | apply IsS92.set_2 | refine IsS92.far ?_ NB492_491.out _) | exact HI492.out)) hb); clear hb ho7; obtain ⟨Ao8, co8, eo8⟩ := Kd.R_slice HO495.out; subst eo8) | ((with_reducible refine gate_callee (f := 85) rfl ?_); refine goesL_ (some 10) rfl rfl Tryd.func85 (by kernel_rfl) rfl #[.pointer (some ⟨gb492, 0, none⟩), .slice Ao8 y493.length co8] rfl argsB ?_; (with_reducible refine (spec_l1Cur_among.calls gb492 l0 0 0 _ _ y493 t496 t497 t498 w _ ?side1 ?side2 ?side3 ?side4 ?side5 A2.out).mono ?_); (case side1 => repeat (first | (with_reducible first | exact HI492.out | apply IsS92.alloc | apply IsS92.drewN | apply IsS92.drew | apply IsS92.set_1 | apply IsS92.set_2 | refine IsS92.far ?_ NB492_491.out _) | exact HI492.out)); (case side2 => repeat (first | (with_reducible first | exact HB.out | apply below_alloc | apply pw_below_drewN | apply below_drew1 | refine below_set ?_ (IsS92.ge HI492.out) | refine below_set ?_ GE491.out) | exact HB.out)); (case side3 => repeat (first | exact (Kd.R_reads' HO495.out).2.2 | (with_reducible refine Kd.C_alloc ?_ _) | (with_reducible refine Kd.C_drewN ?_ _) | (with_reducible refine Kd.C_drew ?_))); (case side4 => exact (Kd.R_reads' HO495.out).2.1); (case side5 => exact far_slice (IsS92.own_ne HI492.out HO495.out (by decide))); rintro e w9 ⟨rfl, hi, hb, hk⟩; refine ⟨_, rfl, ?_⟩; replace BK491 := Aside0.mk (KeepBut.blk hk (g' := gb491) (o := .cells #[.int .i64 0, .string (⟨#[]⟩ : ByteArray), .int .i64 0, .int .i64 0, .int .i64 0, .int .i64 0] 26 (0, 0)) (upK BK491.out) NB491_492.out (by simp)); replace HO495 := Aside0.mk (Kd.R_mono (Kd.R_keep (IsS92.apart (show IsS92 w _ gb492 l0 0 0 from by repeat (first | (with_reducible first | exact HI492.out | apply IsS92.alloc | apply IsS92.drewN | apply IsS92.drew | apply IsS92.set_1 | apply IsS92.set_2 | refine IsS92.far ?_ NB492_491.out _) | exact HI492.out)) (upR HO495.out) (by decide)) hk (fun _ h => h.2)) (fun _ h => h.1)); replace HB := Aside0.mk (hb); replace HI492 := Aside0.mk (hi); (try clear hb); (try clear hk); (try clear hi)) | ((with_reducible refine gate_callee (f := 89) rfl ?_); refine goesL_ (some 11) rfl rfl Tryd.func89 (by kernel_rfl) rfl #[.pointer (some ⟨gb492, 0, none⟩), .int .i64 t496] rfl argsB ?_; (with_reducible refine (spec_l1Cur_permit.calls gb492 l0 t497 t498 t496 t499 t500 t501 t502 t503 t504 t505 t506 w _ ?side1 ?side2 A3.out).mono ?_); (case side1 => repeat (first | (with_reducible first | exact HI492.out | apply IsS92.alloc | apply IsS92.drewN | apply IsS92.drew | apply IsS92.set_1 | apply IsS92.set_2 | refine IsS92.far ?_ NB492_491.out _) | exact HI492.out)); (case side2 => repeat (first | (with_reducible first | exact HB.out | apply below_alloc | apply pw_below_drewN | apply below_drew1 | refine below_set ?_ (IsS92.ge HI492.out) | refine below_set ?_ GE491.out) | exact HB.out)); rintro e w10 ⟨rfl, hi, hb, hk⟩; refine ⟨_, rfl, ?_⟩; replace BK491 := Aside0.mk (KeepBut.blk hk (g' := gb491) (o := .cells #[.int .i64 0, .string (⟨#[]⟩ : ByteArray), .int .i64 0, .int .i64 0, .int .i64 0, .int .i64 0] 26 (0, 0)) (upK BK491.out) NB491_492.out (by simp)); replace HO495 := Aside0.mk (Kd.R_mono (Kd.R_keep (IsS92.apart (show IsS92 w _ gb492 l0 t497 t498 from by repeat (first | (with_reducible first | exact HI492.out | apply IsS92.alloc | apply IsS92.drewN | apply IsS92.drew | apply IsS92.set_1 | apply IsS92.set_2 | refine IsS92.far ?_ NB492_491.out _) | exact HI492.out)) (upR HO495.out) (by decide)) hk (fun _ h => h.2)) (fun _ h => h.1)); replace HB := Aside0.mk (hb); replace HI492 := Aside0.mk (hi); (try clear hb); (try clear hk); (try clear hi); have hnb11 := NB491_492.out; have hnc11 := NB492_491.out; have hcz12_0 := ci BK491.out 0 0 rfl; have hcz12_1 : w10.cell? ⟨gb491, 1, none⟩ = some (.string (⟨#[]⟩ : ByteArray)) := cb BK491 1; have hcz12_2 := ci BK491.out 2 0 rfl; have hcz12_3 := ci BK491.out 3 0 rfl; have hcz12_4 := ci BK491.out 4 0 rfl; have hcz12_5 := ci BK491.out 5 0 rfl; have hfz12_0 := fun j_ : Nat => blk_frozen BK491.out j_))
 refine bodyPost_ret (results_cell_row rfl _ _ gb491 26 #[.int .i64 t499, .string t500, .int .i64 t501, .int .i64 t502, .int .i64 t503, .int .i64 t504] (0, 0) _ rfl (by exact pW BK491) Tryd.underlying26 rfl (by kernel_rfl)) rfl ?_
 exact ⟨eB, by repeat (first | (with_reducible first | exact HB.out | apply below_alloc | apply pw_below_drewN | apply below_drew1 | refine below_set ?_ (IsS92.ge HI492.out) | refine below_set ?_ GE491.out) | exact HB.out)⟩

end Go.Proofs.YtgeioccfjgpijaaDoor.QFnPermitDays
