/- Contracts of Go functions that FnPermits reaches: the call computes what the plain function says. No condition. -/
import Derived.Test.YtgeioccfjgpijaaDoorQFnPermitsx0
import Derived.Test.YtgeioccfjgpijaaDoorQFnPermitsx7
import Derived.Test.YtgeioccfjgpijaaDoorQFnPermitsx10
import Derived.Test.YtgeioccfjgpijaaDoorQFnPermitsx11
namespace Go.Proofs.YtgeioccfjgpijaaDoor.QFnPermits
open Go.RowKit Go.Proofs.YtgeioccfjgpijaaDoorW.PrintWords Go.Proofs.YtgeioccfjgpijaaDoorW.PrintLast Go.Proofs.YtgeioccfjgpijaaDoorW.PrintMore
attribute [local go_sem] max2_int min2_int max_two min_two max_three min_three max_four min_four   -- for this text's walks alone
set_option linter.unusedVariables false
set_option linter.unusedSimpArgs false

/-! ### spec_DrawUsePermit: function 45 -/
def spec_DrawUsePermit.j0 : Nat → List (S26) → Int → Int → Int → Bool → List Int → Int → Int → Option ((List (S26)) × Int × Int × Int)
 | 0, _, _, _, _, _, _, _, _ => none
 | k + 1, x7, x8, x9, x10, x30, x457000, x457001, x457002 => if x30 = true then (if 0 ≤ x10 then (if x10 < (x7.length : Int) then ((spec_l1Cur_among.f x457000 x457001 x457002 (([0, 0, 1, (-1)] : List Int))).bind fun bt476 => ((some (([1, 3, 4, 12, 0, 13] : List Int) : List Int)).bind fun y479 => ((spec_l1Cur_pick.f x457000 bt476.2.1 bt476.2.2 24).bind fun bt482 => (if 0 ≤ (wrap64 (4 + (wrap64 (Int.tdiv bt482.1 11)))) then (if (wrap64 (4 + (wrap64 (Int.tdiv bt482.1 11)))) ≤ (y479.length : Int) then ((spec_l1Cur_among.f x457000 bt482.2.1 bt482.2.2 (y479.take ((wrap64 (4 + (wrap64 (Int.tdiv bt482.1 11)))) : Int).toNat)).bind fun bt489 => (some (x7, x8, wrap64 (((rd_T26 x7 x10).f2) + bt476.1), bt489.1))) else (none)) else (none))))) else (none)) else (none)) else ((some (([1, 3, 4, 12, 0, 13] : List Int) : List Int)).bind fun y492 => ((spec_l1Cur_pick.f x457000 x457001 x457002 24).bind fun bt495 => (if 0 ≤ (wrap64 (4 + (wrap64 (Int.tdiv bt495.1 11)))) then (if (wrap64 (4 + (wrap64 (Int.tdiv bt495.1 11)))) ≤ (y492.length : Int) then ((spec_l1Cur_among.f x457000 bt495.2.1 bt495.2.2 (y492.take ((wrap64 (4 + (wrap64 (Int.tdiv bt495.1 11)))) : Int).toNat)).bind fun bt502 => (some (x7, x8, x9, bt502.1))) else (none)) else (none))))
def spec_DrawUsePermit.f (k : Nat) (l0 : List Int) : Option ((List (S26)) × Int × Int × Int) := (spec_l1Cur_permits.f k l0 0 0).bind fun bt457 => ((spec_l1Cur_permitId.f k l0 bt457.2.1 bt457.2.2 bt457.1).bind fun bt462 => ((spec_l1Cur_day22.f l0 bt462.2.1 bt462.2.2).bind fun bt465 => ((spec_l22Find.f k bt457.1 bt462.1).bind fun t468 => (if t468 ≥ 0 then ((spec_l1Cur_one.f l0 bt465.2.1 bt465.2.2 4).bind fun bt469 => (spec_DrawUsePermit.j0 k bt457.1 bt462.1 bt465.1 t468 (!bt469.1) l0 bt469.2.1 bt469.2.2)) else (spec_DrawUsePermit.j0 k bt457.1 bt462.1 bt465.1 t468 false l0 bt465.2.1 bt465.2.2)))))
theorem spec_DrawUsePermit.mono_l : ∀ k, (∀ y0 y1 y2 y3 y4 y5 y6 y7, LeO (spec_DrawUsePermit.j0 k y0 y1 y2 y3 y4 y5 y6 y7) (spec_DrawUsePermit.j0 (k + 1) y0 y1 y2 y3 y4 y5 y6 y7))
 | 0 => fun _ _ _ _ _ _ _ _ r h => by simp [spec_DrawUsePermit.j0] at h
 | k + 1 => by
  have ih0 := spec_DrawUsePermit.mono_l k
  ·intro y0 y1 y2 y3 y4 y5 y6 y7
   unfold spec_DrawUsePermit.j0
   repeat' with_reducible first | apply ih0 | apply spec_l1Cur_permitId.mono | apply spec_l1Cur_permits.mono | apply spec_l22Find.mono | exact LeO.refl _ | exact LeO.none _ | refine LeO.ite ?_ ?_ | refine LeO.bind ?_ (fun _ => ?_)
theorem spec_DrawUsePermit.mono : ∀ a0 k, LeO (spec_DrawUsePermit.f k a0) (spec_DrawUsePermit.f (k + 1) a0) := by
 intro a0 k
 have ih0 := spec_DrawUsePermit.mono_l k
 unfold spec_DrawUsePermit.f
 repeat' with_reducible first | apply ih0 | apply spec_l1Cur_permitId.mono | apply spec_l1Cur_permits.mono | apply spec_l22Find.mono | exact LeO.refl _ | exact LeO.none _ | refine LeO.ite ?_ ?_ | refine LeO.bind ?_ (fun _ => ?_)
def spec_DrawUsePermit.T7 : Bool × List (List Nat × List Nat) := (true, [([], []), ([], []), ([0, 1], [0, 1]), ([2], [2]), ([3], [3]), ([], []), ([], []), ([5, 6], [5, 6]), ([4, 7], [4, 7]), ([8, 7, 0, 1, 2, 3, 4, 5, 6, 7, 8], [8])])
def spec_DrawUsePermit.B7 : List Nat := [0, 0, 3, 7, 15, 0, 0, 96, 255, 511]
theorem spec_DrawUsePermit.tab7 : rtab .any (opsOf Tryd.f45 7) = spec_DrawUsePermit.T7 := by kernel_rfl
theorem spec_DrawUsePermit.bits7 : waitsOk spec_DrawUsePermit.T7.2 spec_DrawUsePermit.B7 = true := by kernel_rfl
set_option maxHeartbeats 8000000 in
set_option maxRecDepth 100000 in
theorem spec_DrawUsePermit.calls (k : Nat) (A0 : Option Addr) (c0 : Nat) (l0 : List Int) (r1 : List (S26)) (r2 r3 r4 : Int) (w : World) (hr0 : Kd.C (Kd.int .u8) w A0 l0.length l0) (hc0 : l0.length ≤ c0) (h : spec_DrawUsePermit.f k l0 = some (r1, r2, r3, r4)) :
  Calls Tryd.prog 45 #[.slice A0 l0.length c0] w fun e w' => ∃ v0_ : Value, e = .returned (.tuple #[v0_, .int .i64 r2, .int .i64 r3, .int .i64 r4]) ∧ Kd.R k26 26 w' w.heap.size (fun _ => True) v0_ r1 ∧ Below w.heap.size w w' := by
 have hu92 := Tryd.underlying92
 have HR0 := Aside0.mk hr0
 have HC0 := Aside0.mk hc0
 clear hr0 hc0
 have HB := Aside0.mk (Below.refl w.heap.size w)
 have H := h
 clear h
 unfold spec_DrawUsePermit.f at H
 replace H := Option.bind_eq_some_iff.mp H
 obtain ⟨⟨t457, t460, t461⟩, A20, H⟩ := H
 replace H : ((spec_l1Cur_permitId.f k l0 t460 t461 t457).bind fun bt462 => ((spec_l1Cur_day22.f l0 bt462.2.1 bt462.2.2).bind fun bt465 => ((spec_l22Find.f k t457 bt462.1).bind fun t468 => (if t468 ≥ 0 then ((spec_l1Cur_one.f l0 bt465.2.1 bt465.2.2 4).bind fun bt469 => (spec_DrawUsePermit.j0 k t457 bt462.1 bt465.1 t468 (!bt469.1) l0 bt469.2.1 bt469.2.2)) else (spec_DrawUsePermit.j0 k t457 bt462.1 bt465.1 t468 false l0 bt465.2.1 bt465.2.2))))) = some (r1, r2, r3, r4) := H
 have A2 := Aside0.mk A20
 clear A20
 replace H := Option.bind_eq_some_iff.mp H
 obtain ⟨⟨t462, t463, t464⟩, A30, H⟩ := H
 replace H : ((spec_l1Cur_day22.f l0 t463 t464).bind fun bt465 => ((spec_l22Find.f k t457 t462).bind fun t468 => (if t468 ≥ 0 then ((spec_l1Cur_one.f l0 bt465.2.1 bt465.2.2 4).bind fun bt469 => (spec_DrawUsePermit.j0 k t457 t462 bt465.1 t468 (!bt469.1) l0 bt469.2.1 bt469.2.2)) else (spec_DrawUsePermit.j0 k t457 t462 bt465.1 t468 false l0 bt465.2.1 bt465.2.2)))) = some (r1, r2, r3, r4) := H
 have A3 := Aside0.mk A30
 clear A30
 replace H := Option.bind_eq_some_iff.mp H
 obtain ⟨⟨t465, t466, t467⟩, A40, H⟩ := H
 replace H : ((spec_l22Find.f k t457 t462).bind fun t468 => (if t468 ≥ 0 then ((spec_l1Cur_one.f l0 t466 t467 4).bind fun bt469 => (spec_DrawUsePermit.j0 k t457 t462 t465 t468 (!bt469.1) l0 bt469.2.1 bt469.2.2)) else (spec_DrawUsePermit.j0 k t457 t462 t465 t468 false l0 t466 t467))) = some (r1, r2, r3, r4) := H
 have A4 := Aside0.mk A40
 clear A40
 replace H := bA H
 obtain ⟨t468, A5, H⟩ := H
 have HC6 := Aside0.mk H
 clear H
 go_enter Tryd.func45, Tryd.ntmps45
 go_upto_region 6 with (first | ((with_reducible refine gD 13 ?_); refine bxE 13 92 #[.slice A0 l0.length c0, .int .i64 0, .int .u64 0] fun gb456 w7 hg hbox hb => ?_; have GE456 := gB HB hg; have HI456 := Aside0.mk ((⟨_, _, hbox, (by rw [hg]; exact (below_size (bW HB)) : w.heap.size ≤ gb456), HR0.out⟩ : IsS92 w w7 gb456 l0 0 0)); replace HB := uB HB hb; clear hb hbox hg) | ((with_reducible refine gate_callee (f := 81) rfl ?_); refine goesL_ (some 15) rfl rfl Tryd.func81 (by kernel_rfl) rfl #[.pointer (some ⟨gb456, 0, none⟩)] rfl argsB ?_; (with_reducible refine (spec_l1Cur_permits.calls k gb456 l0 0 0 t457 t460 t461 w _ ?side1 ?side2 A2.out).mono ?_); (case side1 => repeat (first | (with_reducible first | exact HI456.out | apply IsS92.alloc | apply IsS92.drewN | apply IsS92.drew | apply IsS92.set_1 | apply IsS92.set_2) | exact HI456.out)); (case side2 => repeat (first | (with_reducible first | exact HB.out | apply below_alloc | apply pw_below_drewN | apply below_drew1 | refine below_set ?_ (IsS92.ge HI456.out)) | exact HB.out)); rintro e w8 ⟨v458, rfl, ho0, hi, hb, hk⟩; refine ⟨_, rfl, ?_⟩; have HO459 := Aside0.mk (Kd.R_lower ho0 (below_size (by repeat (first | (with_reducible first | exact HB.out | apply below_alloc | apply pw_below_drewN | apply below_drew1 | refine below_set ?_ (IsS92.ge HI456.out)) | exact HB.out)))); replace HB := Aside0.mk (hb); replace HI456 := Aside0.mk (hi); (try clear hb); (try clear hk); (try clear hi); (try clear ho0); obtain ⟨Ao9, co9, eo9⟩ := Kd.R_slice HO459.out; subst eo9) | ((with_reducible refine gate_callee (f := 82) rfl ?_); refine goesL_ (some 18) rfl rfl Tryd.func82 (by kernel_rfl) rfl #[.pointer (some ⟨gb456, 0, none⟩), .slice Ao9 t457.length co9] rfl argsB ?_; (with_reducible refine (spec_l1Cur_permitId.calls k gb456 l0 t460 t461 _ _ t457 t462 t463 t464 w _ ?side1 ?side2 ?side3 ?side4 A3.out).mono ?_); (case side1 => repeat (first | (with_reducible first | exact HI456.out | apply IsS92.alloc | apply IsS92.drewN | apply IsS92.drew | apply IsS92.set_1 | apply IsS92.set_2) | exact HI456.out)); (case side2 => repeat (first | (with_reducible first | exact HB.out | apply below_alloc | apply pw_below_drewN | apply below_drew1 | refine below_set ?_ (IsS92.ge HI456.out)) | exact HB.out)); (case side3 => exact Kd.C_foot_own (IsS92.apart (show IsS92 w _ gb456 l0 t460 t461 from by repeat (first | (with_reducible first | exact HI456.out | apply IsS92.alloc | apply IsS92.drewN | apply IsS92.drew | apply IsS92.set_1 | apply IsS92.set_2) | exact HI456.out)) (upR HO459.out) (by decide)) (fun _ h_ => h_.2)); (case side4 => exact (Kd.R_reads' HO459.out).2.1); rintro e w10 ⟨rfl, hi, hb, hk⟩; refine ⟨_, rfl, ?_⟩; replace HO459 := Aside0.mk (Kd.R_mono (Kd.R_keep (IsS92.apart (show IsS92 w _ gb456 l0 t460 t461 from by repeat (first | (with_reducible first | exact HI456.out | apply IsS92.alloc | apply IsS92.drewN | apply IsS92.drew | apply IsS92.set_1 | apply IsS92.set_2) | exact HI456.out)) (upR HO459.out) (by decide)) hk (fun _ h => h.2)) (fun _ h => h.1)); replace HB := Aside0.mk (hb); replace HI456 := Aside0.mk (hi); (try clear hb); (try clear hk); (try clear hi)) | ((with_reducible refine gate_callee (f := 84) rfl ?_); refine goesL_ (some 20) rfl rfl Tryd.func84 (by kernel_rfl) rfl #[.pointer (some ⟨gb456, 0, none⟩)] rfl argsB ?_; (with_reducible refine (spec_l1Cur_day22.calls gb456 l0 t463 t464 t465 t466 t467 w _ ?side1 ?side2 A4.out).mono ?_); (case side1 => repeat (first | (with_reducible first | exact HI456.out | apply IsS92.alloc | apply IsS92.drewN | apply IsS92.drew | apply IsS92.set_1 | apply IsS92.set_2) | exact HI456.out)); (case side2 => repeat (first | (with_reducible first | exact HB.out | apply below_alloc | apply pw_below_drewN | apply below_drew1 | refine below_set ?_ (IsS92.ge HI456.out)) | exact HB.out)); rintro e w11 ⟨rfl, hi, hb, hk⟩; refine ⟨_, rfl, ?_⟩; replace HO459 := Aside0.mk (Kd.R_mono (Kd.R_keep (IsS92.apart (show IsS92 w _ gb456 l0 t463 t464 from by repeat (first | (with_reducible first | exact HI456.out | apply IsS92.alloc | apply IsS92.drewN | apply IsS92.drew | apply IsS92.set_1 | apply IsS92.set_2) | exact HI456.out)) (upR HO459.out) (by decide)) hk (fun _ h => h.2)) (fun _ h => h.1)); replace HB := Aside0.mk (hb); replace HI456 := Aside0.mk (hi); (try clear hb); (try clear hk); (try clear hi)) | ((with_reducible refine gC 73 ?_); refine lA (some 23) Tryd.func73 (spec_l22Find.calls k _ _ t457 t462 t468 _ ?side1 ?side2 A5.out) ?_; (case side1 => repeat (first | exact (Kd.R_reads' HO459.out).2.2 | (with_reducible refine Kd.C_alloc ?_ _) | (with_reducible refine Kd.C_drewN ?_ _) | (with_reducible refine Kd.C_drew ?_))); (case side2 => exact (Kd.R_reads' HO459.out).2.1); rintro _ ⟨nd, rfl⟩))
 (try simp only [Act.put, List.setIfInBounds_toArray, List.set_cons_zero, List.set_cons_succ])
 go_cut [30] (fun v30 wc => ∃ (kq : Nat) (x30_5 : Bool) (x457001_5 x457002_5 : Int), v30 = .bool x30_5 ∧ Aside0 (spec_DrawUsePermit.j0 kq t457 t462 t465 t468 x30_5 l0 x457001_5 x457002_5 = some (r1, r2, r3, r4)) ∧ Aside0 (kq ≤ k) ∧ Aside0 (Kd.R k26 26 wc w.heap.size (fun _ => True) (.slice Ao9 t457.length co9) t457) ∧ Aside0 (IsS92 w wc gb456 l0 x457001_5 x457002_5) ∧ Aside0 (Below w.heap.size w wc))
 case first =>
  have H := HC6.out
  clear HC6
  replace H := ifD H
  rcases H with ⟨H, -, c12b0⟩ | ⟨H, -, c12b0⟩
  ·(first | rw [c12b0] | (simp only [i64_w, i32_w]; rw [c12b0]) | skip)
   replace H := Option.bind_eq_some_iff.mp H
   obtain ⟨⟨t469, t470, t471⟩, A130, H⟩ := H
   replace H : (spec_DrawUsePermit.j0 k t457 t462 t465 t468 (!t469) l0 t470 t471) = some (r1, r2, r3, r4) := H
   have A13 := Aside0.mk A130
   clear A130
   have H' := Aside0.mk H
   clear H
   go_wp2_with (first | (go_at_call 83; (with_reducible refine (spec_l1Cur_one.calls gb456 l0 t466 t467 4 t469 t470 t471 w _ ?side1 ?side2 A13.out).mono ?_); (case side1 => repeat (first | (with_reducible first | exact HI456.out | apply IsS92.alloc | apply IsS92.drewN | apply IsS92.drew | apply IsS92.set_1 | apply IsS92.set_2) | exact HI456.out)); (case side2 => repeat (first | (with_reducible first | exact HB.out | apply below_alloc | apply pw_below_drewN | apply below_drew1 | refine below_set ?_ (IsS92.ge HI456.out)) | exact HB.out)); rintro e w14 ⟨rfl, hi, hb, hk⟩; replace HO459 := Aside0.mk (Kd.R_mono (Kd.R_keep (IsS92.apart (show IsS92 w _ gb456 l0 t466 t467 from by repeat (first | (with_reducible first | exact HI456.out | apply IsS92.alloc | apply IsS92.drewN | apply IsS92.drew | apply IsS92.set_1 | apply IsS92.set_2) | exact HI456.out)) (upR HO459.out) (by decide)) hk (fun _ h => h.2)) (fun _ h => h.1)); replace HB := Aside0.mk (hb); replace HI456 := Aside0.mk (hi); (try clear hb); (try clear hk); (try clear hi)))
   go_meet
   case rel => exact ⟨_, (!t469), (t470), (t471), rB, H', leB, ⟨upR HO459.out⟩, ⟨by repeat (first | (with_reducible first | exact HI456.out | apply IsS92.alloc | apply IsS92.drewN | apply IsS92.drew | apply IsS92.set_1 | apply IsS92.set_2) | exact HI456.out)⟩, ⟨by repeat (first | (with_reducible first | exact HB.out | apply below_alloc | apply pw_below_drewN | apply below_drew1 | refine below_set ?_ (IsS92.ge HI456.out)) | exact HB.out)⟩⟩
  ·(first | rw [c12b0] | (simp only [i64_w, i32_w]; rw [c12b0]) | skip)
   have H' := Aside0.mk H
   clear H
   go_wp2
   go_meet
   case rel => exact ⟨_, (false), (t466), (t467), rB, H', leB, ⟨upR HO459.out⟩, ⟨by repeat (first | (with_reducible first | exact HI456.out | apply IsS92.alloc | apply IsS92.drewN | apply IsS92.drew | apply IsS92.set_1 | apply IsS92.set_2) | exact HI456.out)⟩, ⟨by repeat (first | (with_reducible first | exact HB.out | apply below_alloc | apply pw_below_drewN | apply below_drew1 | refine below_set ?_ (IsS92.ge HI456.out)) | exact HB.out)⟩⟩
 case rest =>
  clear HC6
  obtain ⟨kq, x30_5, x457001_5, x457002_5, rfl, HA, HJ5, HO_7, HI456, HB⟩ := hcut
  cases kq with
  | zero => exact absurd HA.out (by simp [spec_DrawUsePermit.j0])
  | succ kj5 =>
   have H := HA.out
   clear HA
   simp only [spec_DrawUsePermit.j0] at H
   rcases Bool.eq_false_or_eq_true x30_5 with rfl | rfl
   ·replace H := iT rfl H
    by_cases c16 : 0 ≤ t468
    ·rw [if_pos c16] at H
     have c16b0 : decide (0 ≤ t468) = true := decide_eq_true c16
     clear c16
     by_cases c17 : t468 < (t457.length : Int)
     ·rw [if_pos c17] at H
      have c17b0 : decide (t468 < (t457.length : Int)) = true := decide_eq_true c17
      clear c17
      obtain ⟨y473, hy473⟩ : ∃ y_ : List Int, y_ = (([0, 0, 1, (-1)] : List Int)) := ⟨_, rfl⟩
      replace H : ((spec_l1Cur_among.f l0 x457001_5 x457002_5 y473).bind fun bt476 => ((some (([1, 3, 4, 12, 0, 13] : List Int) : List Int)).bind fun y479 => ((spec_l1Cur_pick.f l0 bt476.2.1 bt476.2.2 24).bind fun bt482 => (if 0 ≤ (wrap64 (4 + (wrap64 (Int.tdiv bt482.1 11)))) then (if (wrap64 (4 + (wrap64 (Int.tdiv bt482.1 11)))) ≤ (y479.length : Int) then ((spec_l1Cur_among.f l0 bt482.2.1 bt482.2.2 (y479.take ((wrap64 (4 + (wrap64 (Int.tdiv bt482.1 11)))) : Int).toNat)).bind fun bt489 => (some (t457, t462, wrap64 (((rd_T26 t457 t468).f2) + bt476.1), bt489.1))) else (none)) else (none))))) = some (r1, r2, r3, r4) := by first | (rw [hy473]; with_reducible exact H) | (have H2_ := (Option.bind_some _ _).symm.trans H; rw [hy473]; with_reducible exact H2_) | (have H2_ := (Option.bind_some _ _).symm.trans H; with_reducible exact H2_) | with_reducible exact H | (rw [hy473]; exact H) | exact H
      have Ny473 := Aside0.mk hy473
      clear hy473
      replace H := Option.bind_eq_some_iff.mp H
      obtain ⟨⟨t476, t477, t478⟩, A180, H⟩ := H
      replace H : ((some (([1, 3, 4, 12, 0, 13] : List Int) : List Int)).bind fun y479 => ((spec_l1Cur_pick.f l0 t477 t478 24).bind fun bt482 => (if 0 ≤ (wrap64 (4 + (wrap64 (Int.tdiv bt482.1 11)))) then (if (wrap64 (4 + (wrap64 (Int.tdiv bt482.1 11)))) ≤ (y479.length : Int) then ((spec_l1Cur_among.f l0 bt482.2.1 bt482.2.2 (y479.take ((wrap64 (4 + (wrap64 (Int.tdiv bt482.1 11)))) : Int).toNat)).bind fun bt489 => (some (t457, t462, wrap64 (((rd_T26 t457 t468).f2) + t476), bt489.1))) else (none)) else (none)))) = some (r1, r2, r3, r4) := H
      have A18 := Aside0.mk A180
      clear A180
      obtain ⟨y479, hy479⟩ : ∃ y_ : List Int, y_ = (([1, 3, 4, 12, 0, 13] : List Int)) := ⟨_, rfl⟩
      replace H : ((spec_l1Cur_pick.f l0 t477 t478 24).bind fun bt482 => (if 0 ≤ (wrap64 (4 + (wrap64 (Int.tdiv bt482.1 11)))) then (if (wrap64 (4 + (wrap64 (Int.tdiv bt482.1 11)))) ≤ (y479.length : Int) then ((spec_l1Cur_among.f l0 bt482.2.1 bt482.2.2 (y479.take ((wrap64 (4 + (wrap64 (Int.tdiv bt482.1 11)))) : Int).toNat)).bind fun bt489 => (some (t457, t462, wrap64 (((rd_T26 t457 t468).f2) + t476), bt489.1))) else (none)) else (none))) = some (r1, r2, r3, r4) := by first | (rw [hy479]; with_reducible exact H) | (have H2_ := (Option.bind_some _ _).symm.trans H; rw [hy479]; with_reducible exact H2_) | (have H2_ := (Option.bind_some _ _).symm.trans H; with_reducible exact H2_) | with_reducible exact H | (rw [hy479]; exact H) | exact H
      have Ny479 := Aside0.mk hy479
      clear hy479
      replace H := Option.bind_eq_some_iff.mp H
      obtain ⟨⟨t482, t483, t484⟩, A190, H⟩ := H
      replace H : (if 0 ≤ (wrap64 (4 + (wrap64 (Int.tdiv t482 11)))) then (if (wrap64 (4 + (wrap64 (Int.tdiv t482 11)))) ≤ (y479.length : Int) then ((spec_l1Cur_among.f l0 t483 t484 (y479.take ((wrap64 (4 + (wrap64 (Int.tdiv t482 11)))) : Int).toNat)).bind fun bt489 => (some (t457, t462, wrap64 (((rd_T26 t457 t468).f2) + t476), bt489.1))) else (none)) else (none)) = some (r1, r2, r3, r4) := H
      have A19 := Aside0.mk A190
      clear A190
      obtain ⟨ji20, hji20⟩ : ∃ j_ : Int, (wrap64 (4 + (wrap64 (Int.tdiv t482 11)))) = j_ := ⟨_, rfl⟩
      replace H : (if 0 ≤ (ji20) then (if (ji20) ≤ (y479.length : Int) then ((spec_l1Cur_among.f l0 t483 t484 (y479.take ((ji20) : Int).toNat)).bind fun bt489 => (some (t457, t462, wrap64 (((rd_T26 t457 t468).f2) + t476), bt489.1))) else (none)) else (none)) = some (r1, r2, r3, r4) := by first | (rw [hji20] at H; exact H) | (simp only [hji20] at H ⊢; exact H)
      (try rw [hji20] at A18)
      (try rw [hji20] at A19)
      have hji20w : (IntKind.i64.wrap (4 + (wrap64 (Int.tdiv t482 11)))) = ji20 := (i64_w _).trans hji20
      by_cases c21 : 0 ≤ (ji20)
      ·rw [if_pos c21] at H
       have c21b0 := eq_true c21
       have c21b1 : decide (0 ≤ (ji20)) = true := decide_eq_true c21
       clear c21
       by_cases c22 : (ji20) ≤ (y479.length : Int)
       ·rw [if_pos c22] at H
        have c22b0 := eq_true c22
        have c22b1 : decide ((ji20) ≤ (y479.length : Int)) = true := decide_eq_true c22
        clear c22
        obtain ⟨y485, hy485⟩ : ∃ y_ : List Int, y_ = (y479.take ((ji20) : Int).toNat) := ⟨_, rfl⟩
        replace H : ((spec_l1Cur_among.f l0 t483 t484 y485).bind fun bt489 => (some (t457, t462, wrap64 (((rd_T26 t457 t468).f2) + t476), bt489.1))) = some (r1, r2, r3, r4) := by first | (rw [hy485]; with_reducible exact H) | (have H2_ := (Option.bind_some _ _).symm.trans H; rw [hy485]; with_reducible exact H2_) | (have H2_ := (Option.bind_some _ _).symm.trans H; with_reducible exact H2_) | with_reducible exact H | (rw [hy485]; exact H) | exact H
        have Ny485 := Aside0.mk hy485
        clear hy485
        replace H := Option.bind_eq_some_iff.mp H
        obtain ⟨⟨t489, t490, t491⟩, A230, H⟩ := H
        replace H : (some (t457, t462, wrap64 (((rd_T26 t457 t468).f2) + t476), t489)) = some (r1, r2, r3, r4) := H
        have A23 := Aside0.mk A230
        clear A230
        simp only [Option.some.injEq, Prod.mk.injEq] at H
        obtain ⟨rfl, rfl, rfl, rfl⟩ := H
        try go_wp2
        replace HO_7 := Aside0.mk (Kd.R_drew HO_7.out)
        replace HI456 := Aside0.mk (IsS92.drew HI456.out)
        replace HB := Aside0.mk (below_drew1 HB.out)
        have p472 : 0 ≤ (t468 : Int) := of_decide_eq_true asmB
        have q472 : t468 < (t457.length : Int) := of_decide_eq_true asmB
        obtain ⟨ad472, e472, hx472_0, hx472_1, hx472_2, hx472_3, hx472_4, hx472_5⟩ := at_T26 (Kd.R_reads' HO_7.out).2.2 t468 p472 q472
        cases e472
        replace p472 := eq_true p472
        replace q472 := eq_true q472
        refine sA (n := 10) (S := fun w' => w'.cell? (ad472.add ((t468).toNat * 6)) = some (.int .i64 ((rd_T26 t457 t468).f0)) ∧ w'.cell? ⟨(ad472.add ((t468).toNat * 6)).block, (ad472.add ((t468).toNat * 6)).off + 1, none⟩ = some (.string ((rd_T26 t457 t468).f1)) ∧ w'.cell? ⟨(ad472.add ((t468).toNat * 6)).block, (ad472.add ((t468).toNat * 6)).off + 2, none⟩ = some (.int .i64 ((rd_T26 t457 t468).f2)) ∧ w'.cell? ⟨(ad472.add ((t468).toNat * 6)).block, (ad472.add ((t468).toNat * 6)).off + 3, none⟩ = some (.int .i64 ((rd_T26 t457 t468).f3)) ∧ w'.cell? ⟨(ad472.add ((t468).toNat * 6)).block, (ad472.add ((t468).toNat * 6)).off + 4, none⟩ = some (.int .i64 ((rd_T26 t457 t468).f4)) ∧ w'.cell? ⟨(ad472.add ((t468).toNat * 6)).block, (ad472.add ((t468).toNat * 6)).off + 5, none⟩ = some (.int .i64 ((rd_T26 t457 t468).f5))) (ds := []) spec_DrawUsePermit.tab7 spec_DrawUsePermit.bits7 #[false, false, false, false, false, false, false, false, false, false] ⟨hx472_0, hx472_1, hx472_2, hx472_3, hx472_4, hx472_5⟩ fun hHeld HT_ HW_ => ?_
        generalize wc.drew = w24 at HO_7 HI456 HB hx472_0 hx472_1 hx472_2 hx472_3 hx472_4 hx472_5 hHeld ⊢
        refine pA 0 31 HT_ ?_
        refine pA 1 32 HT_ ?_
        refine pA 2 33 HT_ ?_
        refine pA 3 34 HT_ ?_
        refine pA 5 36 HT_ ?_
        refine tA 4 35 HT_ HW_ hHeld ?_
        refine oA 6 (some 37) HT_ fun K hK => ?_
        refine Kd.R_lit_step (Kd.int .i64) _ 3 ?hg (N := 37) ?hd (xs := ([0, 0, 1, (-1)] : List Int)) (inner := [.int .i64 0, .int .i64 0, .int .i64 1, .int .i64 (-1)]) (ok := fun _ => True) (okp := fun _ => True) ?hr ?hp (fun _ hk => hk) trivial (Below.refl _ _) (Nat.le_refl _) (by simp) ?_; (case hd => rfl); (case hg => rfl); (case hr => first | (go_simp; done) | (go_simp; rfl)); (case hp => exact (Reps.one (show Kd.M (Kd.int .i64) _ _ _ 0 [.int .i64 0] from rfl) (Reps.one (show Kd.M (Kd.int .i64) _ _ _ 0 [.int .i64 0] from rfl) (Reps.one (show Kd.M (Kd.int .i64) _ _ _ 1 [.int .i64 1] from rfl) (Reps.one (show Kd.M (Kd.int .i64) _ _ _ (-1) [.int .i64 (-1)] from rfl) (Reps.none _ _))))))
        intro v474 w25 ho26 hb hg_ hnew_
        have HS0_ := (hb.cell (World.block_lt_of_cell? _ _ (hHeld.1))).trans (hHeld.1)
        have HS1_ := (hb.cell (World.block_lt_of_cell? _ _ (hHeld.2.1))).trans (hHeld.2.1)
        have HS2_ := (hb.cell (World.block_lt_of_cell? _ _ (hHeld.2.2.1))).trans (hHeld.2.2.1)
        have HS3_ := (hb.cell (World.block_lt_of_cell? _ _ (hHeld.2.2.2.1))).trans (hHeld.2.2.2.1)
        have HS4_ := (hb.cell (World.block_lt_of_cell? _ _ (hHeld.2.2.2.2.1))).trans (hHeld.2.2.2.2.1)
        have HS5_ := (hb.cell (World.block_lt_of_cell? _ _ (hHeld.2.2.2.2.2))).trans (hHeld.2.2.2.2.2)
        clear hg_ hnew_
        (first | rw [← Ny473.out] at ho26 | (simp only [Int.reduceToNat] at ho26; rw [← Ny473.out] at ho26))
        have HO475 := Aside0.mk (Kd.R_lower ho26 (below_size (by repeat (first | (with_reducible first | exact HB.out | apply below_alloc | apply pw_below_drewN | apply below_drew1 | refine below_set ?_ (IsS92.ge HI456.out)) | exact HB.out))))
        replace HO_7 := uR HO_7 hb
        replace HB := Aside0.mk (below_step (by repeat (first | (with_reducible first | exact HB.out | apply below_alloc | apply pw_below_drewN | apply below_drew1 | refine below_set ?_ (IsS92.ge HI456.out)) | exact HB.out)) hb)
        replace HI456 := Aside0.mk (IsS92.below (by repeat (first | (with_reducible first | exact HI456.out | apply IsS92.alloc | apply IsS92.drewN | apply IsS92.drew | apply IsS92.set_1 | apply IsS92.set_2) | exact HI456.out)) hb)
        clear hb ho26
        obtain ⟨Ao27, co27, eo27⟩ := Kd.R_slice HO475.out
        (first | subst eo27 | (injection eo27 with f1_ f2_ f3_; have f4_ := f1_.symm; have f5_ := f3_.symm; clear f1_ f2_ f3_; subst f4_; subst f5_))
        refine hK.out _ _ ⟨HS0_, HS1_, HS2_, HS3_, HS4_, HS5_⟩ (fun hHeld => ?_)
        clear hK K
        refine nA ?_ (some 37)
        refine oA 7 (some 38) HT_ fun K hK => ?_
        refine goes_ Tryd.func85 (by kernel_rfl) rfl #[.pointer (some ⟨gb456, 0, none⟩), .slice Ao27 y473.length co27] (by rfl) rfl rfl argsB ?_
        with_reducible refine (spec_l1Cur_among.calls gb456 l0 x457001_5 x457002_5 _ _ y473 t476 t477 t478 w _ ?side1 ?side2 ?side3 ?side4 ?side5 A18.out).mono ?_
        (case side1 => repeat (first | (with_reducible first | exact HI456.out | apply IsS92.alloc | apply IsS92.drewN | apply IsS92.drew | apply IsS92.set_1 | apply IsS92.set_2) | exact HI456.out))
        (case side2 => repeat (first | (with_reducible first | exact HB.out | apply below_alloc | apply pw_below_drewN | apply below_drew1 | refine below_set ?_ (IsS92.ge HI456.out)) | exact HB.out))
        (case side3 => repeat (first | exact (Kd.R_reads' HO475.out).2.2 | (with_reducible refine Kd.C_alloc ?_ _) | (with_reducible refine Kd.C_drewN ?_ _) | (with_reducible refine Kd.C_drew ?_)))
        (case side4 => exact (Kd.R_reads' HO475.out).2.1)
        (case side5 => exact far_slice (IsS92.own_ne HI456.out HO475.out (by decide)))
        rintro e w28 ⟨rfl, hi, hb, hk⟩
        have HS0_ := keep_cell hk (hHeld.1) (by first | (rw [add_block]; exact Kd.own_blk (IsS92.own_ne HI456.out HO_7.out (by decide))) | (show (Addr.add _ _).block ≠ _; rw [add_block]; exact Kd.own_blk (IsS92.own_ne HI456.out HO_7.out (by decide))) | exact Kd.own_blk (IsS92.own_ne HI456.out HO_7.out (by decide)))
        have HS1_ := keep_cell hk (hHeld.2.1) (by first | (rw [add_block]; exact Kd.own_blk (IsS92.own_ne HI456.out HO_7.out (by decide))) | (show (Addr.add _ _).block ≠ _; rw [add_block]; exact Kd.own_blk (IsS92.own_ne HI456.out HO_7.out (by decide))) | exact Kd.own_blk (IsS92.own_ne HI456.out HO_7.out (by decide)))
        have HS2_ := keep_cell hk (hHeld.2.2.1) (by first | (rw [add_block]; exact Kd.own_blk (IsS92.own_ne HI456.out HO_7.out (by decide))) | (show (Addr.add _ _).block ≠ _; rw [add_block]; exact Kd.own_blk (IsS92.own_ne HI456.out HO_7.out (by decide))) | exact Kd.own_blk (IsS92.own_ne HI456.out HO_7.out (by decide)))
        have HS3_ := keep_cell hk (hHeld.2.2.2.1) (by first | (rw [add_block]; exact Kd.own_blk (IsS92.own_ne HI456.out HO_7.out (by decide))) | (show (Addr.add _ _).block ≠ _; rw [add_block]; exact Kd.own_blk (IsS92.own_ne HI456.out HO_7.out (by decide))) | exact Kd.own_blk (IsS92.own_ne HI456.out HO_7.out (by decide)))
        have HS4_ := keep_cell hk (hHeld.2.2.2.2.1) (by first | (rw [add_block]; exact Kd.own_blk (IsS92.own_ne HI456.out HO_7.out (by decide))) | (show (Addr.add _ _).block ≠ _; rw [add_block]; exact Kd.own_blk (IsS92.own_ne HI456.out HO_7.out (by decide))) | exact Kd.own_blk (IsS92.own_ne HI456.out HO_7.out (by decide)))
        have HS5_ := keep_cell hk (hHeld.2.2.2.2.2) (by first | (rw [add_block]; exact Kd.own_blk (IsS92.own_ne HI456.out HO_7.out (by decide))) | (show (Addr.add _ _).block ≠ _; rw [add_block]; exact Kd.own_blk (IsS92.own_ne HI456.out HO_7.out (by decide))) | exact Kd.own_blk (IsS92.own_ne HI456.out HO_7.out (by decide)))
        refine ⟨_, rfl, ?_⟩
        replace HO_7 := Aside0.mk (Kd.R_mono (Kd.R_keep (IsS92.apart (show IsS92 w _ gb456 l0 x457001_5 x457002_5 from by repeat (first | (with_reducible first | exact HI456.out | apply IsS92.alloc | apply IsS92.drewN | apply IsS92.drew | apply IsS92.set_1 | apply IsS92.set_2) | exact HI456.out)) (upR HO_7.out) (by decide)) hk (fun _ h => h.2)) (fun _ h => h.1))
        replace HO475 := Aside0.mk (Kd.R_mono (Kd.R_keep (IsS92.apart (show IsS92 w _ gb456 l0 x457001_5 x457002_5 from by repeat (first | (with_reducible first | exact HI456.out | apply IsS92.alloc | apply IsS92.drewN | apply IsS92.drew | apply IsS92.set_1 | apply IsS92.set_2) | exact HI456.out)) (upR HO475.out) (by decide)) hk (fun _ h => h.2)) (fun _ h => h.1))
        replace HB := Aside0.mk (hb)
        replace HI456 := Aside0.mk (hi)
        (try clear hb)
        (try clear hk)
        (try clear hi)
        refine hK.out _ _ ⟨HS0_, HS1_, HS2_, HS3_, HS4_, HS5_⟩ (fun hHeld => ?_)
        clear hK K
        refine nA ?_ (some 38)
        refine pA 8 39 HT_ ?_
        refine pA 9 9 HT_ ?_
        refine done_ (done_of HT_.out (by kernel_rfl)) ?_
        try go_wp2_with (first | ((with_reducible refine gate_dst (N := 44) rfl ?_); refine Kd.R_lit (Kd.int .i64) _ 3 ?hg (N := 44) ?hd (xs := ([1, 3, 4, 12, 0, 13] : List Int)) (inner := [.int .i64 1, .int .i64 3, .int .i64 4, .int .i64 12, .int .i64 0, .int .i64 13]) (ok := fun _ => True) (okp := fun _ => True) ?hr ?hp (fun _ hk => hk) trivial (Below.refl _ _) (Nat.le_refl _) (by simp) ?_; (case hd => rfl); (case hg => rfl); (case hr => first | (go_simp; done) | (go_simp; rfl)); (case hp => exact (Reps.one (show Kd.M (Kd.int .i64) _ _ _ 1 [.int .i64 1] from rfl) (Reps.one (show Kd.M (Kd.int .i64) _ _ _ 3 [.int .i64 3] from rfl) (Reps.one (show Kd.M (Kd.int .i64) _ _ _ 4 [.int .i64 4] from rfl) (Reps.one (show Kd.M (Kd.int .i64) _ _ _ 12 [.int .i64 12] from rfl) (Reps.one (show Kd.M (Kd.int .i64) _ _ _ 0 [.int .i64 0] from rfl) (Reps.one (show Kd.M (Kd.int .i64) _ _ _ 13 [.int .i64 13] from rfl) (Reps.none _ _)))))))); intro v480 w29 ho30 hb hg_ hnew_; clear hg_ hnew_; (first | rw [← Ny479.out] at ho30 | (simp only [Int.reduceToNat] at ho30; rw [← Ny479.out] at ho30)); have HO481 := Aside0.mk (Kd.R_lower (Kd.R_new' ho30 (Kd.R_lt (upR HO475.out))) (below_size (by repeat (first | (with_reducible first | exact HB.out | apply below_alloc | apply pw_below_drewN | apply below_drew1 | refine below_set ?_ (IsS92.ge HI456.out)) | exact HB.out)))); replace HO_7 := uR HO_7 hb; replace HO475 := Aside0.mk (Kd.R_elder' (upR HO475.out) (Kd.R_base ho30) hb); replace HB := Aside0.mk (below_step (by repeat (first | (with_reducible first | exact HB.out | apply below_alloc | apply pw_below_drewN | apply below_drew1 | refine below_set ?_ (IsS92.ge HI456.out)) | exact HB.out)) hb); replace HI456 := Aside0.mk (IsS92.below (by repeat (first | (with_reducible first | exact HI456.out | apply IsS92.alloc | apply IsS92.drewN | apply IsS92.drew | apply IsS92.set_1 | apply IsS92.set_2) | exact HI456.out)) hb); clear hb ho30) | ((with_reducible refine gate_callee (f := 86) rfl ?_); refine goesL_ (some 46) rfl rfl Tryd.func86 (by kernel_rfl) rfl #[.pointer (some ⟨gb456, 0, none⟩), .int .i64 24] rfl argsB ?_; (with_reducible refine (spec_l1Cur_pick.calls gb456 l0 t477 t478 24 t482 t483 t484 w _ ?side1 ?side2 A19.out).mono ?_); (case side1 => repeat (first | (with_reducible first | exact HI456.out | apply IsS92.alloc | apply IsS92.drewN | apply IsS92.drew | apply IsS92.set_1 | apply IsS92.set_2) | exact HI456.out)); (case side2 => repeat (first | (with_reducible first | exact HB.out | apply below_alloc | apply pw_below_drewN | apply below_drew1 | refine below_set ?_ (IsS92.ge HI456.out)) | exact HB.out)); rintro e w31 ⟨rfl, hi, hb, hk⟩; refine ⟨_, rfl, ?_⟩; replace HO_7 := Aside0.mk (Kd.R_mono (Kd.R_keep (IsS92.apart (show IsS92 w _ gb456 l0 t477 t478 from by repeat (first | (with_reducible first | exact HI456.out | apply IsS92.alloc | apply IsS92.drewN | apply IsS92.drew | apply IsS92.set_1 | apply IsS92.set_2) | exact HI456.out)) (upR HO_7.out) (by decide)) hk (fun _ h => h.2)) (fun _ h => h.1)); replace HO475 := Aside0.mk (Kd.R_mono (Kd.R_keep (IsS92.apart (show IsS92 w _ gb456 l0 t477 t478 from by repeat (first | (with_reducible first | exact HI456.out | apply IsS92.alloc | apply IsS92.drewN | apply IsS92.drew | apply IsS92.set_1 | apply IsS92.set_2) | exact HI456.out)) (upR HO475.out) (by decide)) hk (fun _ h => h.2)) (fun _ h => h.1)); replace HO481 := Aside0.mk (Kd.R_mono (Kd.R_keep (IsS92.apart (show IsS92 w _ gb456 l0 t477 t478 from by repeat (first | (with_reducible first | exact HI456.out | apply IsS92.alloc | apply IsS92.drewN | apply IsS92.drew | apply IsS92.set_1 | apply IsS92.set_2) | exact HI456.out)) (upR HO481.out) (by decide)) hk (fun _ h => h.2)) (fun _ h => h.1)); replace HB := Aside0.mk (hb); replace HI456 := Aside0.mk (hi); (try clear hb); (try clear hk); (try clear hi); obtain ⟨Ao33, co33, eo33⟩ := Kd.R_slice HO481.out; subst eo33; have q32 : ((ji20) : Int) ≤ ((y479.length : Int) : Int) := of_decide_eq_true asmB; obtain ⟨i032, hi032, _, hsz32, _⟩ := info_parts info3; have hroom32 : y479.length ≤ co33 := (Kd.R_reads' HO481.out).2.1; have hC32 : Kd.C (Kd.int .i64) _ Ao33 y479.length y479 := (Kd.R_reads' HO481.out).2.2; have hcut32 := cut_to (P := Tryd.prog) 68 3 .i64 Tryd.underlying68 hi032 Ao33 y479.length co33 (ji20) (of_decide_eq_true asmB) q32 hroom32; have hr32 := Kd.C_take (m := ((ji20) : Int).toNat) hC32 (by omega); have hy32 : y485.length = ((ji20) : Int).toNat := (by rw [Ny485.out, List.length_take]; omega); rw [← Ny485.out] at hr32; rw [← hy32] at hcut32; have HR488 := Aside0.mk hr32; have HC488 := Aside0.mk (show y485.length ≤ co33 from by omega); clear hr32 hC32 hroom32 hi032 hsz32; have KY32 := Aside0.mk hy32; clear hy32; have KL32 := Aside0.mk (show ((ji20) : Int).toNat ≤ y479.length from by omega); replace q32 := eq_true q32) | ((with_reducible refine gate_callee (f := 85) rfl ?_); refine goesL_ (some 50) rfl rfl Tryd.func85 (by kernel_rfl) rfl #[.pointer (some ⟨gb456, 0, none⟩), .slice Ao33 y485.length co33] rfl argsB ?_; (with_reducible refine (spec_l1Cur_among.calls gb456 l0 t483 t484 _ _ y485 t489 t490 t491 w _ ?side1 ?side2 ?side3 ?side4 ?side5 A23.out).mono ?_); (case side1 => repeat (first | (with_reducible first | exact HI456.out | apply IsS92.alloc | apply IsS92.drewN | apply IsS92.drew | apply IsS92.set_1 | apply IsS92.set_2) | exact HI456.out)); (case side2 => repeat (first | (with_reducible first | exact HB.out | apply below_alloc | apply pw_below_drewN | apply below_drew1 | refine below_set ?_ (IsS92.ge HI456.out)) | exact HB.out)); (case side3 => repeat (first | exact (by repeat (first | (with_reducible exact HR488.out) | (with_reducible refine Kd.C_alloc ?_ _) | (with_reducible refine Kd.C_drewN ?_ _) | (with_reducible refine Kd.C_drew ?_) | exact HR488.out)) | (with_reducible refine Kd.C_alloc ?_ _) | (with_reducible refine Kd.C_drewN ?_ _) | (with_reducible refine Kd.C_drew ?_))); (case side4 => exact HC488.out); (case side5 => exact (by rintro ad rfl _ rfl; exact IsS92.own_ne HI456.out HO481.out (by decide) (by simp [Value.ownBlock]))); rintro e w34 ⟨rfl, hi, hb, hk⟩; refine ⟨_, rfl, ?_⟩; replace HO_7 := Aside0.mk (Kd.R_mono (Kd.R_keep (IsS92.apart (show IsS92 w _ gb456 l0 t483 t484 from by repeat (first | (with_reducible first | exact HI456.out | apply IsS92.alloc | apply IsS92.drewN | apply IsS92.drew | apply IsS92.set_1 | apply IsS92.set_2) | exact HI456.out)) (upR HO_7.out) (by decide)) hk (fun _ h => h.2)) (fun _ h => h.1)); replace HO475 := Aside0.mk (Kd.R_mono (Kd.R_keep (IsS92.apart (show IsS92 w _ gb456 l0 t483 t484 from by repeat (first | (with_reducible first | exact HI456.out | apply IsS92.alloc | apply IsS92.drewN | apply IsS92.drew | apply IsS92.set_1 | apply IsS92.set_2) | exact HI456.out)) (upR HO475.out) (by decide)) hk (fun _ h => h.2)) (fun _ h => h.1)); replace HO481 := Aside0.mk (Kd.R_mono (Kd.R_keep (IsS92.apart (show IsS92 w _ gb456 l0 t483 t484 from by repeat (first | (with_reducible first | exact HI456.out | apply IsS92.alloc | apply IsS92.drewN | apply IsS92.drew | apply IsS92.set_1 | apply IsS92.set_2) | exact HI456.out)) (upR HO481.out) (by decide)) hk (fun _ h => h.2)) (fun _ h => h.1)); replace HB := Aside0.mk (hb); replace HI456 := Aside0.mk (hi); (try clear hb); (try clear hk); (try clear hi)))
        refine bodyPost_ret (results_list (rs := [.tmp 2, .tmp 3, .tmp 4, .tmp 5]) rfl (by simp) (.tmp (.tmp (.tmp (.tmp .nil))))) rfl ?_
        exact ⟨_, by first | rfl | (simp [errW_none, errW_some] <;> rfl) | (simp only [← hji20]; first | rfl | (simp [errW_none, errW_some] <;> rfl)) | (simp [*, errW_none, errW_some] <;> rfl), upR HO_7.out, by repeat (first | (with_reducible first | exact HB.out | apply below_alloc | apply pw_below_drewN | apply below_drew1 | refine below_set ?_ (IsS92.ge HI456.out)) | exact HB.out)⟩
       ·rw [if_neg c22] at H
        exact absurd H (by simp)
      ·rw [if_neg c21] at H
       exact absurd H (by simp)
     ·rw [if_neg c17] at H
      exact absurd H (by simp)
    ·rw [if_neg c16] at H
     exact absurd H (by simp)
   ·replace H := iF (by decide) H
    obtain ⟨y492, hy492⟩ : ∃ y_ : List Int, y_ = (([1, 3, 4, 12, 0, 13] : List Int)) := ⟨_, rfl⟩
    replace H : ((spec_l1Cur_pick.f l0 x457001_5 x457002_5 24).bind fun bt495 => (if 0 ≤ (wrap64 (4 + (wrap64 (Int.tdiv bt495.1 11)))) then (if (wrap64 (4 + (wrap64 (Int.tdiv bt495.1 11)))) ≤ (y492.length : Int) then ((spec_l1Cur_among.f l0 bt495.2.1 bt495.2.2 (y492.take ((wrap64 (4 + (wrap64 (Int.tdiv bt495.1 11)))) : Int).toNat)).bind fun bt502 => (some (t457, t462, t465, bt502.1))) else (none)) else (none))) = some (r1, r2, r3, r4) := by first | (rw [hy492]; with_reducible exact H) | (have H2_ := (Option.bind_some _ _).symm.trans H; rw [hy492]; with_reducible exact H2_) | (have H2_ := (Option.bind_some _ _).symm.trans H; with_reducible exact H2_) | with_reducible exact H | (rw [hy492]; exact H) | exact H
    have Ny492 := Aside0.mk hy492
    clear hy492
    replace H := Option.bind_eq_some_iff.mp H
    obtain ⟨⟨t495, t496, t497⟩, A350, H⟩ := H
    replace H : (if 0 ≤ (wrap64 (4 + (wrap64 (Int.tdiv t495 11)))) then (if (wrap64 (4 + (wrap64 (Int.tdiv t495 11)))) ≤ (y492.length : Int) then ((spec_l1Cur_among.f l0 t496 t497 (y492.take ((wrap64 (4 + (wrap64 (Int.tdiv t495 11)))) : Int).toNat)).bind fun bt502 => (some (t457, t462, t465, bt502.1))) else (none)) else (none)) = some (r1, r2, r3, r4) := H
    have A35 := Aside0.mk A350
    clear A350
    obtain ⟨ji36, hji36⟩ : ∃ j_ : Int, (wrap64 (4 + (wrap64 (Int.tdiv t495 11)))) = j_ := ⟨_, rfl⟩
    replace H : (if 0 ≤ (ji36) then (if (ji36) ≤ (y492.length : Int) then ((spec_l1Cur_among.f l0 t496 t497 (y492.take ((ji36) : Int).toNat)).bind fun bt502 => (some (t457, t462, t465, bt502.1))) else (none)) else (none)) = some (r1, r2, r3, r4) := by first | (rw [hji36] at H; exact H) | (simp only [hji36] at H ⊢; exact H)
    (try rw [hji36] at A35)
    have hji36w : (IntKind.i64.wrap (4 + (wrap64 (Int.tdiv t495 11)))) = ji36 := (i64_w _).trans hji36
    by_cases c37 : 0 ≤ (ji36)
    ·rw [if_pos c37] at H
     have c37b0 := eq_true c37
     have c37b1 : decide (0 ≤ (ji36)) = true := decide_eq_true c37
     clear c37
     by_cases c38 : (ji36) ≤ (y492.length : Int)
     ·rw [if_pos c38] at H
      have c38b0 := eq_true c38
      have c38b1 : decide ((ji36) ≤ (y492.length : Int)) = true := decide_eq_true c38
      clear c38
      obtain ⟨y498, hy498⟩ : ∃ y_ : List Int, y_ = (y492.take ((ji36) : Int).toNat) := ⟨_, rfl⟩
      replace H : ((spec_l1Cur_among.f l0 t496 t497 y498).bind fun bt502 => (some (t457, t462, t465, bt502.1))) = some (r1, r2, r3, r4) := by first | (rw [hy498]; with_reducible exact H) | (have H2_ := (Option.bind_some _ _).symm.trans H; rw [hy498]; with_reducible exact H2_) | (have H2_ := (Option.bind_some _ _).symm.trans H; with_reducible exact H2_) | with_reducible exact H | (rw [hy498]; exact H) | exact H
      have Ny498 := Aside0.mk hy498
      clear hy498
      replace H := Option.bind_eq_some_iff.mp H
      obtain ⟨⟨t502, t503, t504⟩, A390, H⟩ := H
      replace H : (some (t457, t462, t465, t502)) = some (r1, r2, r3, r4) := H
      have A39 := Aside0.mk A390
      clear A390
      simp only [Option.some.injEq, Prod.mk.injEq] at H
      obtain ⟨rfl, rfl, rfl, rfl⟩ := H
      go_wp2_with (first | ((with_reducible refine gate_dst (N := 44) rfl ?_); refine Kd.R_lit (Kd.int .i64) _ 3 ?hg (N := 44) ?hd (xs := ([1, 3, 4, 12, 0, 13] : List Int)) (inner := [.int .i64 1, .int .i64 3, .int .i64 4, .int .i64 12, .int .i64 0, .int .i64 13]) (ok := fun _ => True) (okp := fun _ => True) ?hr ?hp (fun _ hk => hk) trivial (Below.refl _ _) (Nat.le_refl _) (by simp) ?_; (case hd => rfl); (case hg => rfl); (case hr => first | (go_simp; done) | (go_simp; rfl)); (case hp => exact (Reps.one (show Kd.M (Kd.int .i64) _ _ _ 1 [.int .i64 1] from rfl) (Reps.one (show Kd.M (Kd.int .i64) _ _ _ 3 [.int .i64 3] from rfl) (Reps.one (show Kd.M (Kd.int .i64) _ _ _ 4 [.int .i64 4] from rfl) (Reps.one (show Kd.M (Kd.int .i64) _ _ _ 12 [.int .i64 12] from rfl) (Reps.one (show Kd.M (Kd.int .i64) _ _ _ 0 [.int .i64 0] from rfl) (Reps.one (show Kd.M (Kd.int .i64) _ _ _ 13 [.int .i64 13] from rfl) (Reps.none _ _)))))))); intro v493 w40 ho41 hb hg_ hnew_; clear hg_ hnew_; (first | rw [← Ny492.out] at ho41 | (simp only [Int.reduceToNat] at ho41; rw [← Ny492.out] at ho41)); have HO494 := Aside0.mk (Kd.R_lower ho41 (below_size (by repeat (first | (with_reducible first | exact HB.out | apply below_alloc | apply pw_below_drewN | apply below_drew1 | refine below_set ?_ (IsS92.ge HI456.out)) | exact HB.out)))); replace HO_7 := uR HO_7 hb; replace HB := Aside0.mk (below_step (by repeat (first | (with_reducible first | exact HB.out | apply below_alloc | apply pw_below_drewN | apply below_drew1 | refine below_set ?_ (IsS92.ge HI456.out)) | exact HB.out)) hb); replace HI456 := Aside0.mk (IsS92.below (by repeat (first | (with_reducible first | exact HI456.out | apply IsS92.alloc | apply IsS92.drewN | apply IsS92.drew | apply IsS92.set_1 | apply IsS92.set_2) | exact HI456.out)) hb); clear hb ho41) | ((with_reducible refine gate_callee (f := 86) rfl ?_); refine goesL_ (some 46) rfl rfl Tryd.func86 (by kernel_rfl) rfl #[.pointer (some ⟨gb456, 0, none⟩), .int .i64 24] rfl argsB ?_; (with_reducible refine (spec_l1Cur_pick.calls gb456 l0 x457001_5 x457002_5 24 t495 t496 t497 w _ ?side1 ?side2 A35.out).mono ?_); (case side1 => repeat (first | (with_reducible first | exact HI456.out | apply IsS92.alloc | apply IsS92.drewN | apply IsS92.drew | apply IsS92.set_1 | apply IsS92.set_2) | exact HI456.out)); (case side2 => repeat (first | (with_reducible first | exact HB.out | apply below_alloc | apply pw_below_drewN | apply below_drew1 | refine below_set ?_ (IsS92.ge HI456.out)) | exact HB.out)); rintro e w42 ⟨rfl, hi, hb, hk⟩; refine ⟨_, rfl, ?_⟩; replace HO_7 := Aside0.mk (Kd.R_mono (Kd.R_keep (IsS92.apart (show IsS92 w _ gb456 l0 x457001_5 x457002_5 from by repeat (first | (with_reducible first | exact HI456.out | apply IsS92.alloc | apply IsS92.drewN | apply IsS92.drew | apply IsS92.set_1 | apply IsS92.set_2) | exact HI456.out)) (upR HO_7.out) (by decide)) hk (fun _ h => h.2)) (fun _ h => h.1)); replace HO494 := Aside0.mk (Kd.R_mono (Kd.R_keep (IsS92.apart (show IsS92 w _ gb456 l0 x457001_5 x457002_5 from by repeat (first | (with_reducible first | exact HI456.out | apply IsS92.alloc | apply IsS92.drewN | apply IsS92.drew | apply IsS92.set_1 | apply IsS92.set_2) | exact HI456.out)) (upR HO494.out) (by decide)) hk (fun _ h => h.2)) (fun _ h => h.1)); replace HB := Aside0.mk (hb); replace HI456 := Aside0.mk (hi); (try clear hb); (try clear hk); (try clear hi); obtain ⟨Ao44, co44, eo44⟩ := Kd.R_slice HO494.out; subst eo44; have q43 : ((ji36) : Int) ≤ ((y492.length : Int) : Int) := of_decide_eq_true asmB; obtain ⟨i043, hi043, _, hsz43, _⟩ := info_parts info3; have hroom43 : y492.length ≤ co44 := (Kd.R_reads' HO494.out).2.1; have hC43 : Kd.C (Kd.int .i64) _ Ao44 y492.length y492 := (Kd.R_reads' HO494.out).2.2; have hcut43 := cut_to (P := Tryd.prog) 68 3 .i64 Tryd.underlying68 hi043 Ao44 y492.length co44 (ji36) (of_decide_eq_true asmB) q43 hroom43; have hr43 := Kd.C_take (m := ((ji36) : Int).toNat) hC43 (by omega); have hy43 : y498.length = ((ji36) : Int).toNat := (by rw [Ny498.out, List.length_take]; omega); rw [← Ny498.out] at hr43; rw [← hy43] at hcut43; have HR501 := Aside0.mk hr43; have HC501 := Aside0.mk (show y498.length ≤ co44 from by omega); clear hr43 hC43 hroom43 hi043 hsz43; have KY43 := Aside0.mk hy43; clear hy43; have KL43 := Aside0.mk (show ((ji36) : Int).toNat ≤ y492.length from by omega); replace q43 := eq_true q43) | ((with_reducible refine gate_callee (f := 85) rfl ?_); refine goesL_ (some 50) rfl rfl Tryd.func85 (by kernel_rfl) rfl #[.pointer (some ⟨gb456, 0, none⟩), .slice Ao44 y498.length co44] rfl argsB ?_; (with_reducible refine (spec_l1Cur_among.calls gb456 l0 t496 t497 _ _ y498 t502 t503 t504 w _ ?side1 ?side2 ?side3 ?side4 ?side5 A39.out).mono ?_); (case side1 => repeat (first | (with_reducible first | exact HI456.out | apply IsS92.alloc | apply IsS92.drewN | apply IsS92.drew | apply IsS92.set_1 | apply IsS92.set_2) | exact HI456.out)); (case side2 => repeat (first | (with_reducible first | exact HB.out | apply below_alloc | apply pw_below_drewN | apply below_drew1 | refine below_set ?_ (IsS92.ge HI456.out)) | exact HB.out)); (case side3 => repeat (first | exact (by repeat (first | (with_reducible exact HR501.out) | (with_reducible refine Kd.C_alloc ?_ _) | (with_reducible refine Kd.C_drewN ?_ _) | (with_reducible refine Kd.C_drew ?_) | exact HR501.out)) | (with_reducible refine Kd.C_alloc ?_ _) | (with_reducible refine Kd.C_drewN ?_ _) | (with_reducible refine Kd.C_drew ?_))); (case side4 => exact HC501.out); (case side5 => exact (by rintro ad rfl _ rfl; exact IsS92.own_ne HI456.out HO494.out (by decide) (by simp [Value.ownBlock]))); rintro e w45 ⟨rfl, hi, hb, hk⟩; refine ⟨_, rfl, ?_⟩; replace HO_7 := Aside0.mk (Kd.R_mono (Kd.R_keep (IsS92.apart (show IsS92 w _ gb456 l0 t496 t497 from by repeat (first | (with_reducible first | exact HI456.out | apply IsS92.alloc | apply IsS92.drewN | apply IsS92.drew | apply IsS92.set_1 | apply IsS92.set_2) | exact HI456.out)) (upR HO_7.out) (by decide)) hk (fun _ h => h.2)) (fun _ h => h.1)); replace HO494 := Aside0.mk (Kd.R_mono (Kd.R_keep (IsS92.apart (show IsS92 w _ gb456 l0 t496 t497 from by repeat (first | (with_reducible first | exact HI456.out | apply IsS92.alloc | apply IsS92.drewN | apply IsS92.drew | apply IsS92.set_1 | apply IsS92.set_2) | exact HI456.out)) (upR HO494.out) (by decide)) hk (fun _ h => h.2)) (fun _ h => h.1)); replace HB := Aside0.mk (hb); replace HI456 := Aside0.mk (hi); (try clear hb); (try clear hk); (try clear hi)))
      refine bodyPost_ret (results_list (rs := [.tmp 2, .tmp 3, .tmp 4, .tmp 5]) rfl (by simp) (.tmp (.tmp (.tmp (.tmp .nil))))) rfl ?_
      exact ⟨_, by first | rfl | (simp [errW_none, errW_some] <;> rfl) | (simp only [← hji36]; first | rfl | (simp [errW_none, errW_some] <;> rfl)) | (simp [*, errW_none, errW_some] <;> rfl), upR HO_7.out, by repeat (first | (with_reducible first | exact HB.out | apply below_alloc | apply pw_below_drewN | apply below_drew1 | refine below_set ?_ (IsS92.ge HI456.out)) | exact HB.out)⟩
     ·rw [if_neg c38] at H
      exact absurd H (by simp)
    ·rw [if_neg c37] at H
     exact absurd H (by simp)

/-! ### spec_DrawLapsePermits: function 46 -/
def spec_DrawLapsePermits.f (k : Nat) (l0 : List Int) : Option ((List (S26)) × Int) := (spec_l1Cur_permits.f k l0 0 0).bind fun bt506 => ((spec_l1Cur_day22.f l0 bt506.2.1 bt506.2.2).bind fun bt511 => (some (bt506.1, bt511.1)))
theorem spec_DrawLapsePermits.mono : ∀ a0 k, LeO (spec_DrawLapsePermits.f k a0) (spec_DrawLapsePermits.f (k + 1) a0) := by
 intro a0 k
 unfold spec_DrawLapsePermits.f
 repeat' with_reducible first | apply spec_l1Cur_permits.mono | exact LeO.refl _ | exact LeO.none _ | refine LeO.ite ?_ ?_ | refine LeO.bind ?_ (fun _ => ?_)
set_option maxHeartbeats 8000000 in
set_option maxRecDepth 100000 in
theorem spec_DrawLapsePermits.calls (k : Nat) (A0 : Option Addr) (c0 : Nat) (l0 : List Int) (r1 : List (S26)) (r2 : Int) (w : World) (hr0 : Kd.C (Kd.int .u8) w A0 l0.length l0) (hc0 : l0.length ≤ c0) (h : spec_DrawLapsePermits.f k l0 = some (r1, r2)) :
  Calls Tryd.prog 46 #[.slice A0 l0.length c0] w fun e w' => ∃ v0_ : Value, e = .returned (.tuple #[v0_, .int .i64 r2]) ∧ Kd.R k26 26 w' w.heap.size (fun _ => True) v0_ r1 ∧ Below w.heap.size w w' := by
 have hu92 := Tryd.underlying92
 have HR0 := Aside0.mk hr0
 have HC0 := Aside0.mk hc0
 clear hr0 hc0
 have HB := Aside0.mk (Below.refl w.heap.size w)
 have H := h
 clear h
 unfold spec_DrawLapsePermits.f at H
 replace H := Option.bind_eq_some_iff.mp H
 obtain ⟨⟨t506, t509, t510⟩, A20, H⟩ := H
 replace H : ((spec_l1Cur_day22.f l0 t509 t510).bind fun bt511 => (some (t506, bt511.1))) = some (r1, r2) := H
 have A2 := Aside0.mk A20
 clear A20
 replace H := Option.bind_eq_some_iff.mp H
 obtain ⟨⟨t511, t512, t513⟩, A30, H⟩ := H
 replace H : (some (t506, t511)) = some (r1, r2) := H
 have A3 := Aside0.mk A30
 clear A30
 simp only [Option.some.injEq, Prod.mk.injEq] at H
 obtain ⟨rfl, rfl⟩ := H
 go_enter Tryd.func46, Tryd.ntmps46
 go_wp2_with (first | ((with_reducible refine gD 8 ?_); refine bxE 8 92 #[.slice A0 l0.length c0, .int .i64 0, .int .u64 0] fun gb505 w4 hg hbox hb => ?_; have GE505 := gB HB hg; have HI505 := Aside0.mk ((⟨_, _, hbox, (by rw [hg]; exact (below_size (bW HB)) : w.heap.size ≤ gb505), HR0.out⟩ : IsS92 w w4 gb505 l0 0 0)); replace HB := uB HB hb; clear hb hbox hg) | ((with_reducible refine gate_callee (f := 81) rfl ?_); refine goesL_ (some 10) rfl rfl Tryd.func81 (by kernel_rfl) rfl #[.pointer (some ⟨gb505, 0, none⟩)] rfl argsB ?_; (with_reducible refine (spec_l1Cur_permits.calls k gb505 l0 0 0 t506 t509 t510 w _ ?side1 ?side2 A2.out).mono ?_); (case side1 => repeat (first | (with_reducible first | exact HI505.out | apply IsS92.alloc | apply IsS92.drewN | apply IsS92.drew | apply IsS92.set_1 | apply IsS92.set_2) | exact HI505.out)); (case side2 => repeat (first | (with_reducible first | exact HB.out | apply below_alloc | apply pw_below_drewN | apply below_drew1 | refine below_set ?_ (IsS92.ge HI505.out)) | exact HB.out)); rintro e w5 ⟨v507, rfl, ho0, hi, hb, hk⟩; refine ⟨_, rfl, ?_⟩; have HO508 := Aside0.mk (Kd.R_lower ho0 (below_size (by repeat (first | (with_reducible first | exact HB.out | apply below_alloc | apply pw_below_drewN | apply below_drew1 | refine below_set ?_ (IsS92.ge HI505.out)) | exact HB.out)))); replace HB := Aside0.mk (hb); replace HI505 := Aside0.mk (hi); (try clear hb); (try clear hk); (try clear hi); (try clear ho0)) | ((with_reducible refine gate_callee (f := 84) rfl ?_); refine goesL_ (some 13) rfl rfl Tryd.func84 (by kernel_rfl) rfl #[.pointer (some ⟨gb505, 0, none⟩)] rfl argsB ?_; (with_reducible refine (spec_l1Cur_day22.calls gb505 l0 t509 t510 t511 t512 t513 w _ ?side1 ?side2 A3.out).mono ?_); (case side1 => repeat (first | (with_reducible first | exact HI505.out | apply IsS92.alloc | apply IsS92.drewN | apply IsS92.drew | apply IsS92.set_1 | apply IsS92.set_2) | exact HI505.out)); (case side2 => repeat (first | (with_reducible first | exact HB.out | apply below_alloc | apply pw_below_drewN | apply below_drew1 | refine below_set ?_ (IsS92.ge HI505.out)) | exact HB.out)); rintro e w6 ⟨rfl, hi, hb, hk⟩; refine ⟨_, rfl, ?_⟩; replace HO508 := Aside0.mk (Kd.R_mono (Kd.R_keep (IsS92.apart (show IsS92 w _ gb505 l0 t509 t510 from by repeat (first | (with_reducible first | exact HI505.out | apply IsS92.alloc | apply IsS92.drewN | apply IsS92.drew | apply IsS92.set_1 | apply IsS92.set_2) | exact HI505.out)) (upR HO508.out) (by decide)) hk (fun _ h => h.2)) (fun _ h => h.1)); replace HB := Aside0.mk (hb); replace HI505 := Aside0.mk (hi); (try clear hb); (try clear hk); (try clear hi)))
 go_ret2
 exact ⟨_, eB, upR HO508.out, by repeat (first | (with_reducible first | exact HB.out | apply below_alloc | apply pw_below_drewN | apply below_drew1 | refine below_set ?_ (IsS92.ge HI505.out)) | exact HB.out)⟩

/-! ### spec_DrawAllowedOn: function 47 -/
def spec_DrawAllowedOn.f (k : Nat) (l0 : List Int) : Option ((List (S26)) × ByteArray × Int) := (spec_l1Cur_permits.f k l0 0 0).bind fun bt515 => ((spec_l1Cur_cave22.f l0 bt515.2.1 bt515.2.2).bind fun bt520 => ((spec_l1Cur_day22.f l0 bt520.2.1 bt520.2.2).bind fun bt523 => (some (bt515.1, bt520.1, bt523.1))))
theorem spec_DrawAllowedOn.mono : ∀ a0 k, LeO (spec_DrawAllowedOn.f k a0) (spec_DrawAllowedOn.f (k + 1) a0) := by
 intro a0 k
 unfold spec_DrawAllowedOn.f
 repeat' with_reducible first | apply spec_l1Cur_permits.mono | exact LeO.refl _ | exact LeO.none _ | refine LeO.ite ?_ ?_ | refine LeO.bind ?_ (fun _ => ?_)
set_option maxHeartbeats 8000000 in
set_option maxRecDepth 100000 in
theorem spec_DrawAllowedOn.calls (k : Nat) (A0 : Option Addr) (c0 : Nat) (l0 : List Int) (r1 : List (S26)) (r2 : ByteArray) (r3 : Int) (w : World) (hr0 : Kd.C (Kd.int .u8) w A0 l0.length l0) (hc0 : l0.length ≤ c0) (h : spec_DrawAllowedOn.f k l0 = some (r1, r2, r3)) :
  Calls Tryd.prog 47 #[.slice A0 l0.length c0] w fun e w' => ∃ v0_ : Value, e = .returned (.tuple #[v0_, .string r2, .int .i64 r3]) ∧ Kd.R k26 26 w' w.heap.size (fun _ => True) v0_ r1 ∧ Below w.heap.size w w' := by
 have hu92 := Tryd.underlying92
 have HR0 := Aside0.mk hr0
 have HC0 := Aside0.mk hc0
 clear hr0 hc0
 have HB := Aside0.mk (Below.refl w.heap.size w)
 have H := h
 clear h
 unfold spec_DrawAllowedOn.f at H
 replace H := Option.bind_eq_some_iff.mp H
 obtain ⟨⟨t515, t518, t519⟩, A20, H⟩ := H
 replace H : ((spec_l1Cur_cave22.f l0 t518 t519).bind fun bt520 => ((spec_l1Cur_day22.f l0 bt520.2.1 bt520.2.2).bind fun bt523 => (some (t515, bt520.1, bt523.1)))) = some (r1, r2, r3) := H
 have A2 := Aside0.mk A20
 clear A20
 replace H := Option.bind_eq_some_iff.mp H
 obtain ⟨⟨t520, t521, t522⟩, A30, H⟩ := H
 replace H : ((spec_l1Cur_day22.f l0 t521 t522).bind fun bt523 => (some (t515, t520, bt523.1))) = some (r1, r2, r3) := H
 have A3 := Aside0.mk A30
 clear A30
 replace H := Option.bind_eq_some_iff.mp H
 obtain ⟨⟨t523, t524, t525⟩, A40, H⟩ := H
 replace H : (some (t515, t520, t523)) = some (r1, r2, r3) := H
 have A4 := Aside0.mk A40
 clear A40
 simp only [Option.some.injEq, Prod.mk.injEq] at H
 obtain ⟨rfl, rfl, rfl⟩ := H
 go_enter Tryd.func47, Tryd.ntmps47
 go_wp2_with (first | ((with_reducible refine gD 9 ?_); refine bxE 9 92 #[.slice A0 l0.length c0, .int .i64 0, .int .u64 0] fun gb514 w5 hg hbox hb => ?_; have GE514 := gB HB hg; have HI514 := Aside0.mk ((⟨_, _, hbox, (by rw [hg]; exact (below_size (bW HB)) : w.heap.size ≤ gb514), HR0.out⟩ : IsS92 w w5 gb514 l0 0 0)); replace HB := uB HB hb; clear hb hbox hg) | ((with_reducible refine gate_callee (f := 81) rfl ?_); refine goesL_ (some 11) rfl rfl Tryd.func81 (by kernel_rfl) rfl #[.pointer (some ⟨gb514, 0, none⟩)] rfl argsB ?_; (with_reducible refine (spec_l1Cur_permits.calls k gb514 l0 0 0 t515 t518 t519 w _ ?side1 ?side2 A2.out).mono ?_); (case side1 => repeat (first | (with_reducible first | exact HI514.out | apply IsS92.alloc | apply IsS92.drewN | apply IsS92.drew | apply IsS92.set_1 | apply IsS92.set_2) | exact HI514.out)); (case side2 => repeat (first | (with_reducible first | exact HB.out | apply below_alloc | apply pw_below_drewN | apply below_drew1 | refine below_set ?_ (IsS92.ge HI514.out)) | exact HB.out)); rintro e w6 ⟨v516, rfl, ho0, hi, hb, hk⟩; refine ⟨_, rfl, ?_⟩; have HO517 := Aside0.mk (Kd.R_lower ho0 (below_size (by repeat (first | (with_reducible first | exact HB.out | apply below_alloc | apply pw_below_drewN | apply below_drew1 | refine below_set ?_ (IsS92.ge HI514.out)) | exact HB.out)))); replace HB := Aside0.mk (hb); replace HI514 := Aside0.mk (hi); (try clear hb); (try clear hk); (try clear hi); (try clear ho0)) | ((with_reducible refine gate_callee (f := 87) rfl ?_); refine goesL_ (some 14) rfl rfl Tryd.func87 (by kernel_rfl) rfl #[.pointer (some ⟨gb514, 0, none⟩)] rfl argsB ?_; (with_reducible refine (spec_l1Cur_cave22.calls gb514 l0 t518 t519 t520 t521 t522 w _ ?side1 ?side2 A3.out).mono ?_); (case side1 => repeat (first | (with_reducible first | exact HI514.out | apply IsS92.alloc | apply IsS92.drewN | apply IsS92.drew | apply IsS92.set_1 | apply IsS92.set_2) | exact HI514.out)); (case side2 => repeat (first | (with_reducible first | exact HB.out | apply below_alloc | apply pw_below_drewN | apply below_drew1 | refine below_set ?_ (IsS92.ge HI514.out)) | exact HB.out)); rintro e w7 ⟨rfl, hi, hb, hk⟩; refine ⟨_, rfl, ?_⟩; replace HO517 := Aside0.mk (Kd.R_mono (Kd.R_keep (IsS92.apart (show IsS92 w _ gb514 l0 t518 t519 from by repeat (first | (with_reducible first | exact HI514.out | apply IsS92.alloc | apply IsS92.drewN | apply IsS92.drew | apply IsS92.set_1 | apply IsS92.set_2) | exact HI514.out)) (upR HO517.out) (by decide)) hk (fun _ h => h.2)) (fun _ h => h.1)); replace HB := Aside0.mk (hb); replace HI514 := Aside0.mk (hi); (try clear hb); (try clear hk); (try clear hi)) | ((with_reducible refine gate_callee (f := 84) rfl ?_); refine goesL_ (some 16) rfl rfl Tryd.func84 (by kernel_rfl) rfl #[.pointer (some ⟨gb514, 0, none⟩)] rfl argsB ?_; (with_reducible refine (spec_l1Cur_day22.calls gb514 l0 t521 t522 t523 t524 t525 w _ ?side1 ?side2 A4.out).mono ?_); (case side1 => repeat (first | (with_reducible first | exact HI514.out | apply IsS92.alloc | apply IsS92.drewN | apply IsS92.drew | apply IsS92.set_1 | apply IsS92.set_2) | exact HI514.out)); (case side2 => repeat (first | (with_reducible first | exact HB.out | apply below_alloc | apply pw_below_drewN | apply below_drew1 | refine below_set ?_ (IsS92.ge HI514.out)) | exact HB.out)); rintro e w8 ⟨rfl, hi, hb, hk⟩; refine ⟨_, rfl, ?_⟩; replace HO517 := Aside0.mk (Kd.R_mono (Kd.R_keep (IsS92.apart (show IsS92 w _ gb514 l0 t521 t522 from by repeat (first | (with_reducible first | exact HI514.out | apply IsS92.alloc | apply IsS92.drewN | apply IsS92.drew | apply IsS92.set_1 | apply IsS92.set_2) | exact HI514.out)) (upR HO517.out) (by decide)) hk (fun _ h => h.2)) (fun _ h => h.1)); replace HB := Aside0.mk (hb); replace HI514 := Aside0.mk (hi); (try clear hb); (try clear hk); (try clear hi)))
 go_ret3
 exact ⟨_, eB, upR HO517.out, by repeat (first | (with_reducible first | exact HB.out | apply below_alloc | apply pw_below_drewN | apply below_drew1 | refine below_set ?_ (IsS92.ge HI514.out)) | exact HB.out)⟩

end Go.Proofs.YtgeioccfjgpijaaDoor.QFnPermits
