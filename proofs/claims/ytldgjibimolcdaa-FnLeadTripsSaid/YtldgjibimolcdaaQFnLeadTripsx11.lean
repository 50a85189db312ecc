/- Contracts of Go functions that FnLeadTrips reaches: the call computes what the plain function says. No condition. -/
import Derived.Test.YtldgjibimolcdaaQFnLeadTripsx0
import Derived.Test.YtldgjibimolcdaaQFnLeadTripsx2
import Derived.Test.YtldgjibimolcdaaQFnLeadTripsx3
import Derived.Test.YtldgjibimolcdaaQFnLeadTripsx4
import Derived.Test.YtldgjibimolcdaaQFnLeadTripsx5
import Derived.Test.YtldgjibimolcdaaQFnLeadTripsx7
import Derived.Test.YtldgjibimolcdaaQFnLeadTripsx10
namespace Go.Proofs.Ytldgjibimolcdaa.QFnLeadTrips
open Go.RowKit Go.Proofs.YtldgjibimolcdaaW.PrintWords Go.Proofs.YtldgjibimolcdaaW.PrintLast Go.Proofs.YtldgjibimolcdaaW.PrintMore
attribute [local go_sem] max2_int min2_int max_two min_two max_three min_three max_four min_four   -- for this text's walks alone
set_option linter.unusedVariables false
set_option linter.unusedSimpArgs false

/-! ### spec_TripFor: function 35 -/
mutual
def spec_TripFor.j0 : Nat → List (S25) → Int → Int → List Int → Bool → Option (List Int × Bool)
 | 0, _, _, _, _, _ => none
 | k + 1, x0, x1, x2, x8, x24 => if x24 = true then (some (x8, false)) else ((spec_l18Rank.f k x0).bind fun t263 => (spec_TripFor.l0 k x0 x1 x2 x8 t263 0))
def spec_TripFor.l0 : Nat → List (S25) → Int → Int → List Int → List Int → Int → Option (List Int × Bool)
 | 0, _, _, _, _, _, _ => none
 | k + 1, x0, x1, x2, x8, x9, x10 => if x10 < (x9.length : Int) then (spec_TripFor.j2 k x0 x1 x2 x8 x9 x10 (decide ((x8.length : Int) < x2))) else (spec_TripFor.j2 k x0 x1 x2 x8 x9 x10 false)
def spec_TripFor.j2 : Nat → List (S25) → Int → Int → List Int → List Int → Int → Bool → Option (List Int × Bool)
 | 0, _, _, _, _, _, _, _ => none
 | k + 1, x0, x1, x2, x8, x9, x10, x37 => if x37 = true then (if 0 ≤ x10 then (if x10 < (x9.length : Int) then (if 0 ≤ (rd x9 x10) then (if (rd x9 x10) < (x0.length : Int) then (if ((rd_T25 x0 (rd x9 x10)).f3) ≥ x1 then (if x8.length < 17592186044416 then (spec_TripFor.l0 k x0 x1 x2 (x8 ++ [(rd_T25 x0 (rd x9 x10)).f0]) x9 (wrap64 (x10 + 1))) else (none)) else (spec_TripFor.l0 k x0 x1 x2 x8 x9 (wrap64 (x10 + 1)))) else (none)) else (none)) else (none)) else (none)) else (some (x8, true))
end
def spec_TripFor.f (k : Nat) (l0 : List (S25)) (a1 a2 : Int) : Option (List Int × Bool) := (some (([] : List Int) : List Int)).bind fun y257 => ((spec_l18Good.f k l0).bind fun t260 => (if t260 = true then ((spec_l1In.f a1 1 9).bind fun t261 => (if t261 = true then ((spec_l1In.f a2 0 12).bind fun t262 => (spec_TripFor.j0 k l0 a1 a2 y257 (!t262))) else (spec_TripFor.j0 k l0 a1 a2 y257 true))) else (spec_TripFor.j0 k l0 a1 a2 y257 true)))
theorem spec_TripFor.mono_l : ∀ k, (∀ y0 y1 y2 y3 y4, LeO (spec_TripFor.j0 k y0 y1 y2 y3 y4) (spec_TripFor.j0 (k + 1) y0 y1 y2 y3 y4)) ∧ (∀ y0 y1 y2 y3 y4 y5, LeO (spec_TripFor.l0 k y0 y1 y2 y3 y4 y5) (spec_TripFor.l0 (k + 1) y0 y1 y2 y3 y4 y5)) ∧ (∀ y0 y1 y2 y3 y4 y5 y6, LeO (spec_TripFor.j2 k y0 y1 y2 y3 y4 y5 y6) (spec_TripFor.j2 (k + 1) y0 y1 y2 y3 y4 y5 y6))
 | 0 => ⟨fun _ _ _ _ _ r h => by simp [spec_TripFor.j0] at h, fun _ _ _ _ _ _ r h => by simp [spec_TripFor.l0] at h, fun _ _ _ _ _ _ _ r h => by simp [spec_TripFor.j2] at h⟩
 | k + 1 => by
  obtain ⟨ih0, ih1, ih2⟩ := spec_TripFor.mono_l k
  refine ⟨?_, ?_, ?_⟩
  ·intro y0 y1 y2 y3 y4
   unfold spec_TripFor.j0
   repeat' with_reducible first | apply ih0 | apply ih1 | apply ih2 | apply spec_l18Good.mono | apply spec_l18Rank.mono | exact LeO.refl _ | exact LeO.none _ | refine LeO.ite ?_ ?_ | refine LeO.bind ?_ (fun _ => ?_)
  ·intro y0 y1 y2 y3 y4 y5
   unfold spec_TripFor.l0
   repeat' with_reducible first | apply ih0 | apply ih1 | apply ih2 | apply spec_l18Good.mono | apply spec_l18Rank.mono | exact LeO.refl _ | exact LeO.none _ | refine LeO.ite ?_ ?_ | refine LeO.bind ?_ (fun _ => ?_)
  ·intro y0 y1 y2 y3 y4 y5 y6
   unfold spec_TripFor.j2
   repeat' with_reducible first | apply ih0 | apply ih1 | apply ih2 | apply spec_l18Good.mono | apply spec_l18Rank.mono | exact LeO.refl _ | exact LeO.none _ | refine LeO.ite ?_ ?_ | refine LeO.bind ?_ (fun _ => ?_)
theorem spec_TripFor.mono : ∀ a0 a1 a2 k, LeO (spec_TripFor.f k a0 a1 a2) (spec_TripFor.f (k + 1) a0 a1 a2) := by
 intro a0 a1 a2 k
 obtain ⟨ih0, ih1, ih2⟩ := spec_TripFor.mono_l k
 unfold spec_TripFor.f
 repeat' with_reducible first | apply ih0 | apply ih1 | apply ih2 | apply spec_l18Good.mono | apply spec_l18Rank.mono | exact LeO.refl _ | exact LeO.none _ | refine LeO.ite ?_ ?_ | refine LeO.bind ?_ (fun _ => ?_)
set_option maxHeartbeats 8000000 in
set_option maxRecDepth 100000 in
theorem spec_TripFor.calls (k : Nat) (A0 : Option Addr) (c0 : Nat) (l0 : List (S25)) (a1 a2 : Int) (r1 : List Int) (r2 : Bool) (w : World) (hr0 : Kd.C k25 w A0 l0.length l0) (hc0 : l0.length ≤ c0) (h : spec_TripFor.f k l0 a1 a2 = some (r1, r2)) :
  Calls Try.prog 35 #[.slice A0 l0.length c0, .int .i64 a1, .int .i64 a2] w fun e w' => ∃ v0_ : Value, e = .returned (.tuple #[v0_, .bool r2]) ∧ Kd.R (Kd.int .i64) 3 w' w.heap.size (fun _ => True) v0_ r1 ∧ Below w.heap.size w w' := by
 have HR0 := Aside0.mk hr0
 have HC0 := Aside0.mk hc0
 clear hr0 hc0
 have HB := Aside0.mk (Below.refl w.heap.size w)
 have H := h
 clear h
 unfold spec_TripFor.f at H
 obtain ⟨y257, hy257⟩ : ∃ y_ : List Int, y_ = (([] : List Int)) := ⟨_, rfl⟩
 replace H : ((spec_l18Good.f k l0).bind fun t260 => (if t260 = true then ((spec_l1In.f a1 1 9).bind fun t261 => (if t261 = true then ((spec_l1In.f a2 0 12).bind fun t262 => (spec_TripFor.j0 k l0 a1 a2 y257 (!t262))) else (spec_TripFor.j0 k l0 a1 a2 y257 true))) else (spec_TripFor.j0 k l0 a1 a2 y257 true))) = some (r1, r2) := by first | (rw [hy257]; with_reducible exact H) | (have H2_ := (Option.bind_some _ _).symm.trans H; rw [hy257]; with_reducible exact H2_) | (have H2_ := (Option.bind_some _ _).symm.trans H; with_reducible exact H2_) | with_reducible exact H | (rw [hy257]; exact H) | exact H
 have Ny257 := Aside0.mk hy257
 clear hy257
 have HC4 := Aside0.mk H
 clear H
 go_enter Try.func35, Try.ntmps35
 go_upto_region 2 with (first | ((with_reducible refine gate_dst (N := 11) rfl ?_); (try (refine gate_guard (by rfl) ?_; dsimp only)); refine Kd.R_lit (Kd.int .i64) _ 3 ?hg (N := 11) ?hd (xs := ([] : List Int)) (inner := []) (ok := fun _ => True) (okp := fun _ => True) ?hr ?hp (fun _ hk => hk) trivial (Below.refl _ _) (Nat.le_refl _) (by simp) ?_; (case hd => rfl); (case hg => rfl); (case hr => first | (go_simp; done) | (go_simp; rfl)); (case hp => exact (Reps.none _ _)); intro v258 w5 ho6 hb hg_ hnew_; clear hg_ hnew_; (first | rw [← Ny257.out] at ho6 | (simp only [Int.reduceToNat] at ho6; rw [← Ny257.out] at ho6)); have HO259 := Aside0.mk (Kd.R_lower ho6 (below_size (bW HB))); replace HB := uB HB hb; clear hb ho6))
 (try simp only [Act.put, List.setIfInBounds_toArray, List.set_cons_zero, List.set_cons_succ])
 go_cut [24] (fun v24 wc => ∃ (kq : Nat) (x24_3 : Bool), v24 = .bool x24_3 ∧ Aside0 (spec_TripFor.j0 kq l0 a1 a2 y257 x24_3 = some (r1, r2)) ∧ Aside0 (kq ≤ k) ∧ Aside0 (Kd.R (Kd.int .i64) 3 wc w.heap.size (fun _ => True) v258 y257) ∧ Aside0 (Below w.heap.size w wc))
 case first =>
  have H := HC4.out
  clear HC4
  replace H := bA H
  obtain ⟨t260, A7, H⟩ := H
  rcases Bool.eq_false_or_eq_true t260 with rfl | rfl
  ·replace H := iT rfl H
   replace H := bA H
   obtain ⟨t261, A9, H⟩ := H
   rcases Bool.eq_false_or_eq_true t261 with rfl | rfl
   ·replace H := iT rfl H
    replace H := bA H
    obtain ⟨t262, A11, H⟩ := H
    have H' := Aside0.mk H
    clear H
    go_wp2_with (first | ((with_reducible refine gC 48 ?_); refine lA (some 13) Try.func48 (spec_l18Good.calls k _ _ l0 true _ ?side1 ?side2 A7.out) ?_; (case side1 => repeat (first | exact (Kd.C_below HR0.out HB.out) | (with_reducible refine Kd.C_alloc ?_ _) | (with_reducible refine Kd.C_drewN ?_ _) | (with_reducible refine Kd.C_drew ?_))); (case side2 => exact HC0.out); intro w12 hb; replace HO259 := uR HO259 hb; replace HB := uB HB hb; (try clear hb); (try clear hk)) | (go_at_call 59; (with_reducible refine (spec_l1In.calls a1 1 9 true _ A9.out).mono ?_); rintro e w' ⟨rfl, ⟨nd, rfl⟩⟩) | (go_at_call 59; (with_reducible refine (spec_l1In.calls a2 0 12 t262 _ A11.out).mono ?_); rintro e w' ⟨rfl, ⟨nd, rfl⟩⟩))
    go_meet
    case rel => exact ⟨_, (!t262), rB, H', leB, ⟨upR HO259.out⟩, (aB HB)⟩
   ·replace H := iF (by decide) H
    have H' := Aside0.mk H
    clear H
    go_wp2_with (first | ((with_reducible refine gC 48 ?_); refine lA (some 13) Try.func48 (spec_l18Good.calls k _ _ l0 true _ ?side1 ?side2 A7.out) ?_; (case side1 => repeat (first | exact (Kd.C_below HR0.out HB.out) | (with_reducible refine Kd.C_alloc ?_ _) | (with_reducible refine Kd.C_drewN ?_ _) | (with_reducible refine Kd.C_drew ?_))); (case side2 => exact HC0.out); intro w13 hb; replace HO259 := uR HO259 hb; replace HB := uB HB hb; (try clear hb); (try clear hk)) | (go_at_call 59; (with_reducible refine (spec_l1In.calls a1 1 9 false _ A9.out).mono ?_); rintro e w' ⟨rfl, ⟨nd, rfl⟩⟩))
    go_meet
    case rel => exact ⟨_, (true), rB, H', leB, ⟨upR HO259.out⟩, (aB HB)⟩
  ·replace H := iF (by decide) H
   have H' := Aside0.mk H
   clear H
   go_wp2_with (first | ((with_reducible refine gC 48 ?_); refine lA (some 13) Try.func48 (spec_l18Good.calls k _ _ l0 false _ ?side1 ?side2 A7.out) ?_; (case side1 => repeat (first | exact (Kd.C_below HR0.out HB.out) | (with_reducible refine Kd.C_alloc ?_ _) | (with_reducible refine Kd.C_drewN ?_ _) | (with_reducible refine Kd.C_drew ?_))); (case side2 => exact HC0.out); intro w14 hb; replace HO259 := uR HO259 hb; replace HB := uB HB hb; (try clear hb); (try clear hk)))
   go_meet
   case rel => exact ⟨_, (true), rB, H', leB, ⟨upR HO259.out⟩, (aB HB)⟩
 case rest =>
  clear HC4
  obtain ⟨kq, x24_3, rfl, HA, HJ3, HO_8, HB⟩ := hcut
  cases kq with
  | zero => exact absurd HA.out (by simp [spec_TripFor.j0])
  | succ kj3 =>
   have H := HA.out
   clear HA
   simp only [spec_TripFor.j0] at H
   rcases Bool.eq_false_or_eq_true x24_3 with rfl | rfl
   ·replace H := iT rfl H
    simp only [Option.some.injEq, Prod.mk.injEq] at H
    obtain ⟨rfl, rfl⟩ := H
    go_wp2
    go_ret2
    exact ⟨_, eB, upR HO_8.out, (bW HB)⟩
   ·replace H := iF (by decide) H
    replace H := bA H
    obtain ⟨t263, A16, H⟩ := H
    have H' := Aside0.mk H
    clear H
    go_wp2_with (first | ((with_reducible refine gate_callee (f := 57) rfl ?_); refine goesL_ (some 27) rfl rfl Try.func57 (by kernel_rfl) rfl #[.slice A0 l0.length c0] rfl argsB ?_; (with_reducible refine (spec_l18Rank.calls kj3 _ _ l0 t263 _ ?side1 ?side2 A16.out).mono ?_); (case side1 => repeat (first | exact (Kd.C_below HR0.out HB.out) | (with_reducible refine Kd.C_alloc ?_ _) | (with_reducible refine Kd.C_drewN ?_ _) | (with_reducible refine Kd.C_drew ?_))); (case side2 => exact HC0.out); rintro e w17 ⟨v264, rfl, ho0, hb⟩; refine ⟨_, rfl, ?_⟩; have HO265 := Aside0.mk (Kd.R_lower (Kd.R_new' ho0 (Kd.R_lt (upR HO_8.out))) (below_size (bW HB))); replace HO_8 := Aside0.mk (Kd.R_elder' (upR HO_8.out) (Kd.R_base ho0) hb); replace HB := uB HB hb; (try clear hb); (try clear hk); (try clear ho0)))
    (try simp only [Act.put, List.setIfInBounds_toArray, List.set_cons_zero, List.set_cons_succ])
    go_loopg [8, 10] kj3 (fun kq v8 v10 w' => ∃ (x8_2 : List Int) (x10_2 : Int), v10 = .int .i64 x10_2 ∧ Aside0 (spec_TripFor.l0 kq l0 a1 a2 x8_2 t263 x10_2 = some (r1, r2)) ∧ Aside0 (kq ≤ kj3) ∧ Aside0 (Kd.R (Kd.int .i64) 3 w' w.heap.size (fun k_ => some k_ ≠ (v264 : Value).ownBlock) v8 x8_2) ∧ Aside0 (Kd.R (Kd.int .i64) 3 w' w.heap.size (fun k_ => some k_ ≠ (v8 : Value).ownBlock) v264 t263) ∧ Aside0 (Below w.heap.size w w'))
    case atStart => exact ⟨(y257), (0), rB, H', ⟨Nat.le_refl _⟩, ⟨by (with_reducible repeat (first | apply Kd.R_alloc | apply Kd.R_drewN | apply Kd.R_drew)); exact Kd.R_mono HO_8.out (fun _ hk => hk.2)⟩, ⟨by (with_reducible repeat (first | apply Kd.R_alloc | apply Kd.R_drewN | apply Kd.R_drew)); exact Kd.R_mono HO265.out (fun _ hk => hk.2)⟩, (aB HB)⟩
    case round =>
     clear H'
     obtain ⟨x8_2, x10_2, rfl, HA, HK2, HO_8, HO_9, HB⟩ := hrel
     cases gk with
     | zero => exact absurd HA.out (by simp [spec_TripFor.l0])
     | succ k2 =>
      have H := HA.out
      clear HA
      simp only [spec_TripFor.l0] at H
      have HC18 := Aside0.mk H
      clear H
      go_upto_region 6 with (fail)
      go_cut [37] (fun v37 wc => ∃ (kq : Nat) (x37_17 : Bool), v37 = .bool x37_17 ∧ Aside0 (spec_TripFor.j2 kq l0 a1 a2 x8_2 t263 x10_2 x37_17 = some (r1, r2)) ∧ Aside0 (kq ≤ k2) ∧ Aside0 (Kd.R (Kd.int .i64) 3 wc w.heap.size (fun k_ => some k_ ≠ (v264 : Value).ownBlock) u8 x8_2) ∧ Aside0 (Kd.R (Kd.int .i64) 3 wc w.heap.size (fun k_ => some k_ ≠ (u8 : Value).ownBlock) v264 t263) ∧ Aside0 (Below w.heap.size w wc))
      case first =>
       have H := HC18.out
       clear HC18
       replace H := ifD H
       rcases H with ⟨H, -, c19b0⟩ | ⟨H, -, c19b0⟩
       ·(first | rw [c19b0] | (simp only [i64_w, i32_w]; rw [c19b0]) | skip)
        have H' := Aside0.mk H
        clear H
        obtain ⟨Ao20, co20, eo20⟩ := Kd.R_slice HO_9.out
        subst eo20
        obtain ⟨Ao21, co21, eo21⟩ := Kd.R_slice HO_8.out
        subst eo21
        go_wp2
        go_meet
        case rel => exact ⟨_, (decide ((x8_2.length : Int) < a2)), rB, H', ⟨by have := HJ3.out; have := HK2.out; first | omega | exact Nat.le_refl _⟩, ⟨upR HO_8.out⟩, ⟨upR HO_9.out⟩, (aB HB)⟩
       ·(first | rw [c19b0] | (simp only [i64_w, i32_w]; rw [c19b0]) | skip)
        have H' := Aside0.mk H
        clear H
        obtain ⟨Ao22, co22, eo22⟩ := Kd.R_slice HO_9.out
        subst eo22
        go_wp2
        go_meet
        case rel => exact ⟨_, (false), rB, H', ⟨by have := HJ3.out; have := HK2.out; first | omega | exact Nat.le_refl _⟩, ⟨upR HO_8.out⟩, ⟨upR HO_9.out⟩, (aB HB)⟩
      case rest =>
       clear HC18
       obtain ⟨kq, x37_17, rfl, HA, HJ17, HO_8, HO_9, HB⟩ := hcut
       cases kq with
       | zero => exact absurd HA.out (by simp [spec_TripFor.j2])
       | succ kj17 =>
        have H := HA.out
        clear HA
        simp only [spec_TripFor.j2] at H
        rcases Bool.eq_false_or_eq_true x37_17 with rfl | rfl
        ·replace H := iT rfl H
         by_cases c24 : 0 ≤ x10_2
         ·rw [if_pos c24] at H
          have c24b0 : decide (0 ≤ x10_2) = true := decide_eq_true c24
          clear c24
          by_cases c25 : x10_2 < (t263.length : Int)
          ·rw [if_pos c25] at H
           have c25b0 : decide (x10_2 < (t263.length : Int)) = true := decide_eq_true c25
           clear c25
           by_cases c26 : 0 ≤ (rd t263 x10_2)
           ·rw [if_pos c26] at H
            have c26b0 : decide (0 ≤ (rd t263 x10_2)) = true := decide_eq_true c26
            clear c26
            by_cases c27 : (rd t263 x10_2) < (l0.length : Int)
            ·rw [if_pos c27] at H
             have c27b0 : decide ((rd t263 x10_2) < (l0.length : Int)) = true := decide_eq_true c27
             clear c27
             replace H := ifD H
             rcases H with ⟨H, -, c28b0⟩ | ⟨H, -, c28b0⟩
             ·by_cases c29 : x8_2.length < 17592186044416
              ·rw [if_pos c29] at H
               have LMc29 := Aside0.mk c29
               clear c29
               obtain ⟨y270, hy270⟩ : ∃ y_ : List Int, y_ = (x8_2 ++ [(rd_T25 l0 (rd t263 x10_2)).f0]) := ⟨_, rfl⟩
               replace H : (spec_TripFor.l0 kj17 l0 a1 a2 y270 t263 (wrap64 (x10_2 + 1))) = some (r1, r2) := by first | (rw [hy270]; with_reducible exact H) | (have H2_ := (Option.bind_some _ _).symm.trans H; rw [hy270]; with_reducible exact H2_) | (have H2_ := (Option.bind_some _ _).symm.trans H; with_reducible exact H2_) | with_reducible exact H | (rw [hy270]; exact H) | exact H
               have Ny270 := Aside0.mk hy270
               clear hy270
               have H' := Aside0.mk H
               clear H
               obtain ⟨Ao30, co30, eo30⟩ := Kd.R_slice HO_9.out
               subst eo30
               have p266 : 0 ≤ (x10_2 : Int) := of_decide_eq_true asmB
               have q266 : x10_2 < (t263.length : Int) := of_decide_eq_true asmB
               obtain ⟨ad266, e266, hx266_0⟩ := Kd.at_int (Kd.R_reads' HO_9.out).2.2 x10_2 p266 q266
               cases e266
               replace p266 := eq_true p266
               replace q266 := eq_true q266
               have p267 : 0 ≤ ((rd t263 x10_2) : Int) := of_decide_eq_true asmB
               have q267 : (rd t263 x10_2) < (l0.length : Int) := of_decide_eq_true asmB
               obtain ⟨ad267, e267, hx267_0, hx267_1, hx267_2, hx267_3, hx267_4⟩ := at_T25 HR0.out (rd t263 x10_2) p267 q267
               cases e267
               replace hx267_0 := bx HB.out hx267_0
               replace hx267_1 := bx HB.out hx267_1
               replace hx267_2 := bx HB.out hx267_2
               replace hx267_3 := bx HB.out hx267_3
               replace hx267_4 := bx HB.out hx267_4
               replace p267 := eq_true p267
               replace q267 := eq_true q267
               have p268 : 0 ≤ (x10_2 : Int) := of_decide_eq_true asmB
               have q268 : x10_2 < (t263.length : Int) := of_decide_eq_true asmB
               obtain ⟨ad268, e268, hx268_0⟩ := Kd.at_int (Kd.R_reads' HO_9.out).2.2 x10_2 p268 q268
               obtain rfl : ad266 = ad268 := (by injection e268)
               replace p268 := eq_true p268
               replace q268 := eq_true q268
               have p269 : 0 ≤ ((rd t263 x10_2) : Int) := of_decide_eq_true asmB
               have q269 : (rd t263 x10_2) < (l0.length : Int) := of_decide_eq_true asmB
               obtain ⟨ad269, e269, hx269_0, hx269_1, hx269_2, hx269_3, hx269_4⟩ := at_T25 HR0.out (rd t263 x10_2) p269 q269
               obtain rfl : ad267 = ad269 := (by injection e269)
               replace hx269_0 := bx HB.out hx269_0
               replace hx269_1 := bx HB.out hx269_1
               replace hx269_2 := bx HB.out hx269_2
               replace hx269_3 := bx HB.out hx269_3
               replace hx269_4 := bx HB.out hx269_4
               replace p269 := eq_true p269
               replace q269 := eq_true q269
               go_wp2_with (first | ((with_reducible refine gate_builtin (b := .append) (xs := #[.tmp 50, .tmp 59]) rfl ?_); (try (refine gate_guard (by rfl) ?_; dsimp only)); at_builtin; refine Kd.R_append (Kd.int .i64) (w0 := w) w.heap.size rfl (.tmp 50) (.tmp 59) 35 3 (.int .i64 0) 8 rfl Try.underlying35 info3 rfl (by decide) (by omega) u8 x8_2 ((rd_T25 l0 (rd t263 x10_2)).f0) [.int .i64 ((rd_T25 l0 (rd t263 x10_2)).f0)] (fun k_ => some k_ ≠ (.slice (some ad266) t263.length co30 : Value).ownBlock) (fun _ => False) rfl rfl ?aP (fun _ hk => hk.elim) ?aF ?aO ?aB ?aS ?aL ?_; (case aP => exact rfl); (case aB => exact (bW HB)); (case aF => exact (fun k_ hk => Kd.fresh' (Kd.R_lt (upR HO_9.out)) k_ hk)); (case aO => exact (upR HO_8.out)); (case aS => exact (below_size (bW HB))); (case aL => have := LMc29.out; omega); intro v271 w31 ho hb hg hat; rw [← Ny270.out] at ho; have HO272 := Aside0.mk (ho); replace HO_9 := Aside0.mk (Kd.R_after (ok := (fun _ => True)) (by (with_reducible repeat (first | apply Kd.R_alloc | apply Kd.R_drewN | apply Kd.R_drew)); exact Kd.R_mono HO_9.out (fun _ hk => ⟨trivial, hk⟩)) hg hat); replace HB := Aside0.mk (hb); clear HO_8; clear ho hb hg hat))
               go_roundg kj17
               case measure => have := HJ3.out; have := HK2.out; have := HJ17.out; omega
               case rel => exact ⟨(y270), (wrap64 (x10_2 + 1)), rB, H', ⟨by have := HJ3.out; have := HK2.out; have := HJ17.out; omega⟩, ⟨upR HO272.out⟩, ⟨by (with_reducible repeat (first | apply Kd.R_alloc | apply Kd.R_drewN | apply Kd.R_drew)); exact Kd.R_mono HO_9.out (fun _ hk => hk.2)⟩, (aB HB)⟩
              ·rw [if_neg c29] at H
               exact absurd H (by simp)
             ·have H' := Aside0.mk H
              clear H
              obtain ⟨Ao32, co32, eo32⟩ := Kd.R_slice HO_9.out
              subst eo32
              have p266 : 0 ≤ (x10_2 : Int) := of_decide_eq_true asmB
              have q266 : x10_2 < (t263.length : Int) := of_decide_eq_true asmB
              obtain ⟨ad266, e266, hx266_0⟩ := Kd.at_int (Kd.R_reads' HO_9.out).2.2 x10_2 p266 q266
              cases e266
              replace p266 := eq_true p266
              replace q266 := eq_true q266
              have p267 : 0 ≤ ((rd t263 x10_2) : Int) := of_decide_eq_true asmB
              have q267 : (rd t263 x10_2) < (l0.length : Int) := of_decide_eq_true asmB
              obtain ⟨ad267, e267, hx267_0, hx267_1, hx267_2, hx267_3, hx267_4⟩ := at_T25 HR0.out (rd t263 x10_2) p267 q267
              cases e267
              replace hx267_0 := bx HB.out hx267_0
              replace hx267_1 := bx HB.out hx267_1
              replace hx267_2 := bx HB.out hx267_2
              replace hx267_3 := bx HB.out hx267_3
              replace hx267_4 := bx HB.out hx267_4
              replace p267 := eq_true p267
              replace q267 := eq_true q267
              go_wp2
              go_roundg kj17
              case measure => have := HJ3.out; have := HK2.out; have := HJ17.out; omega
              case rel => exact ⟨(x8_2), (wrap64 (x10_2 + 1)), rB, H', ⟨by have := HJ3.out; have := HK2.out; have := HJ17.out; omega⟩, ⟨upR HO_8.out⟩, ⟨upR HO_9.out⟩, (aB HB)⟩
            ·rw [if_neg c27] at H
             exact absurd H (by simp)
           ·rw [if_neg c26] at H
            exact absurd H (by simp)
          ·rw [if_neg c25] at H
           exact absurd H (by simp)
         ·rw [if_neg c24] at H
          exact absurd H (by simp)
        ·replace H := iF (by decide) H
         simp only [Option.some.injEq, Prod.mk.injEq] at H
         obtain ⟨rfl, rfl⟩ := H
         go_wp2
         go_ret2
         exact ⟨_, eB, by (with_reducible repeat (first | apply Kd.R_alloc | apply Kd.R_drewN | apply Kd.R_drew)); exact Kd.R_mono HO_8.out (fun _ hk => trivial), (bW HB)⟩

/-! ### impl_TripFor: function 36 -/
mutual
def impl_TripFor.j0 : Nat → List (S25) → Int → Int → Bool → Option (List Int × Bool)
 | 0, _, _, _, _ => none
 | k + 1, x0, x1, x2, x23 => if x23 = true then (some (([] : List Int), false)) else ((impl_ranked.f k x0).bind fun t276 => (impl_TripFor.l0 k x1 x2 ([] : List Int) t276 (t276.length : Int) 0))
def impl_TripFor.l0 : Nat → Int → Int → List Int → List (S25) → Int → Int → Option (List Int × Bool)
 | 0, _, _, _, _, _, _ => none
 | k + 1, x1, x2, x8, x25, x26, x27 => if x27 < x26 then (if 0 ≤ x27 then (if x27 < (x25.length : Int) then (if ((rd_T25 x25 x27).f3) ≥ x1 then (if (x8.length : Int) < x2 then (if x8.length < 17592186044416 then (impl_TripFor.l0 k x1 x2 (x8 ++ [(rd_T25 x25 x27).f0]) x25 x26 (wrap64 (x27 + 1))) else (none)) else (impl_TripFor.l0 k x1 x2 x8 x25 x26 (wrap64 (x27 + 1)))) else (impl_TripFor.l0 k x1 x2 x8 x25 x26 (wrap64 (x27 + 1)))) else (none)) else (none)) else (some (x8, true))
end
def impl_TripFor.f (k : Nat) (l0 : List (S25)) (a1 a2 : Int) : Option (List Int × Bool) := (impl_AreLeads.f k l0).bind fun t273 => (if t273 = true then ((impl_isGrade.f a1).bind fun t274 => (if t274 = true then ((impl_within.f a2 0 12).bind fun t275 => (impl_TripFor.j0 k l0 a1 a2 (!t275))) else (impl_TripFor.j0 k l0 a1 a2 true))) else (impl_TripFor.j0 k l0 a1 a2 true))
theorem impl_TripFor.mono_l : ∀ k, (∀ y0 y1 y2 y3, LeO (impl_TripFor.j0 k y0 y1 y2 y3) (impl_TripFor.j0 (k + 1) y0 y1 y2 y3)) ∧ (∀ y0 y1 y2 y3 y4 y5, LeO (impl_TripFor.l0 k y0 y1 y2 y3 y4 y5) (impl_TripFor.l0 (k + 1) y0 y1 y2 y3 y4 y5))
 | 0 => ⟨fun _ _ _ _ r h => by simp [impl_TripFor.j0] at h, fun _ _ _ _ _ _ r h => by simp [impl_TripFor.l0] at h⟩
 | k + 1 => by
  obtain ⟨ih0, ih1⟩ := impl_TripFor.mono_l k
  refine ⟨?_, ?_⟩
  ·intro y0 y1 y2 y3
   unfold impl_TripFor.j0
   repeat' with_reducible first | apply ih0 | apply ih1 | apply impl_AreLeads.mono | apply impl_ranked.mono | exact LeO.refl _ | exact LeO.none _ | refine LeO.ite ?_ ?_ | refine LeO.bind ?_ (fun _ => ?_)
  ·intro y0 y1 y2 y3 y4 y5
   unfold impl_TripFor.l0
   repeat' with_reducible first | apply ih0 | apply ih1 | apply impl_AreLeads.mono | apply impl_ranked.mono | exact LeO.refl _ | exact LeO.none _ | refine LeO.ite ?_ ?_ | refine LeO.bind ?_ (fun _ => ?_)
theorem impl_TripFor.mono : ∀ a0 a1 a2 k, LeO (impl_TripFor.f k a0 a1 a2) (impl_TripFor.f (k + 1) a0 a1 a2) := by
 intro a0 a1 a2 k
 obtain ⟨ih0, ih1⟩ := impl_TripFor.mono_l k
 unfold impl_TripFor.f
 repeat' with_reducible first | apply ih0 | apply ih1 | apply impl_AreLeads.mono | apply impl_ranked.mono | exact LeO.refl _ | exact LeO.none _ | refine LeO.ite ?_ ?_ | refine LeO.bind ?_ (fun _ => ?_)
set_option maxHeartbeats 8000000 in
set_option maxRecDepth 100000 in
theorem impl_TripFor.calls (k : Nat) (A0 : Option Addr) (c0 : Nat) (l0 : List (S25)) (a1 a2 : Int) (r1 : List Int) (r2 : Bool) (w : World) (hr0 : Kd.C k25 w A0 l0.length l0) (hc0 : l0.length ≤ c0) (h : impl_TripFor.f k l0 a1 a2 = some (r1, r2)) :
  Calls Try.prog 36 #[.slice A0 l0.length c0, .int .i64 a1, .int .i64 a2] w fun e w' => ∃ v0_ : Value, e = .returned (.tuple #[v0_, .bool r2]) ∧ Kd.R (Kd.int .i64) 3 w' w.heap.size (fun _ => True) v0_ r1 ∧ Below w.heap.size w w' := by
 have hu25 := Try.underlying25
 have HR0 := Aside0.mk hr0
 have HC0 := Aside0.mk hc0
 clear hr0 hc0
 have HB := Aside0.mk (Below.refl w.heap.size w)
 have H := h
 clear h
 unfold impl_TripFor.f at H
 have HC4 := Aside0.mk H
 clear H
 go_enter Try.func36, Try.ntmps36
 go_upto_region 1 with (fail)
 go_cut [23] (fun v23 wc => ∃ (kq : Nat) (x23_3 : Bool), v23 = .bool x23_3 ∧ Aside0 (impl_TripFor.j0 kq l0 a1 a2 x23_3 = some (r1, r2)) ∧ Aside0 (kq ≤ k) ∧ Aside0 (Below w.heap.size w wc))
 case first =>
  have H := HC4.out
  clear HC4
  replace H := bA H
  obtain ⟨t273, A5, H⟩ := H
  rcases Bool.eq_false_or_eq_true t273 with rfl | rfl
  ·replace H := iT rfl H
   replace H := bA H
   obtain ⟨t274, A7, H⟩ := H
   rcases Bool.eq_false_or_eq_true t274 with rfl | rfl
   ·replace H := iT rfl H
    replace H := bA H
    obtain ⟨t275, A9, H⟩ := H
    have H' := Aside0.mk H
    clear H
    go_wp2_with (first | ((with_reducible refine gC 18 ?_); refine lA (some 12) Try.func18 (impl_AreLeads.calls k _ _ l0 true _ ?side1 ?side2 A5.out) ?_; (case side1 => repeat (first | exact (Kd.C_below HR0.out HB.out) | (with_reducible refine Kd.C_alloc ?_ _) | (with_reducible refine Kd.C_drewN ?_ _) | (with_reducible refine Kd.C_drew ?_))); (case side2 => exact HC0.out); intro w10 hb; replace HB := uB HB hb; (try clear hb); (try clear hk)) | (go_at_call 46; (with_reducible refine (impl_isGrade.calls a1 true _ A7.out).mono ?_); rintro e w' ⟨rfl, ⟨nd, rfl⟩⟩) | (go_at_call 60; (with_reducible refine (impl_within.calls a2 0 12 t275 _ A9.out).mono ?_); rintro e w' ⟨rfl, ⟨nd, rfl⟩⟩))
    go_meet
    case rel => exact ⟨_, (!t275), rB, H', leB, (aB HB)⟩
   ·replace H := iF (by decide) H
    have H' := Aside0.mk H
    clear H
    go_wp2_with (first | ((with_reducible refine gC 18 ?_); refine lA (some 12) Try.func18 (impl_AreLeads.calls k _ _ l0 true _ ?side1 ?side2 A5.out) ?_; (case side1 => repeat (first | exact (Kd.C_below HR0.out HB.out) | (with_reducible refine Kd.C_alloc ?_ _) | (with_reducible refine Kd.C_drewN ?_ _) | (with_reducible refine Kd.C_drew ?_))); (case side2 => exact HC0.out); intro w11 hb; replace HB := uB HB hb; (try clear hb); (try clear hk)) | (go_at_call 46; (with_reducible refine (impl_isGrade.calls a1 false _ A7.out).mono ?_); rintro e w' ⟨rfl, ⟨nd, rfl⟩⟩))
    go_meet
    case rel => exact ⟨_, (true), rB, H', leB, (aB HB)⟩
  ·replace H := iF (by decide) H
   have H' := Aside0.mk H
   clear H
   go_wp2_with (first | ((with_reducible refine gC 18 ?_); refine lA (some 12) Try.func18 (impl_AreLeads.calls k _ _ l0 false _ ?side1 ?side2 A5.out) ?_; (case side1 => repeat (first | exact (Kd.C_below HR0.out HB.out) | (with_reducible refine Kd.C_alloc ?_ _) | (with_reducible refine Kd.C_drewN ?_ _) | (with_reducible refine Kd.C_drew ?_))); (case side2 => exact HC0.out); intro w12 hb; replace HB := uB HB hb; (try clear hb); (try clear hk)))
   go_meet
   case rel => exact ⟨_, (true), rB, H', leB, (aB HB)⟩
 case rest =>
  clear HC4
  obtain ⟨kq, x23_3, rfl, HA, HJ3, HB⟩ := hcut
  cases kq with
  | zero => exact absurd HA.out (by simp [impl_TripFor.j0])
  | succ kj3 =>
   have H := HA.out
   clear HA
   simp only [impl_TripFor.j0] at H
   rcases Bool.eq_false_or_eq_true x23_3 with rfl | rfl
   ·replace H := iT rfl H
    simp only [Option.some.injEq, Prod.mk.injEq] at H
    obtain ⟨rfl, rfl⟩ := H
    go_wp2
    go_ret2
    exact ⟨_, eB, by first | exact Kd.R_nil _ _ _ _ _ | exact Kd.N_nil _ _ _ _ _ | exact Kd.V_nil _ _ _ _ _ | exact Kd.Q_nil _ _ _ _ _ | exact Kd.S_nil _ _ _ _ _, (bW HB)⟩
   ·replace H := iF (by decide) H
    replace H := bA H
    obtain ⟨t276, A14, H⟩ := H
    have H' := Aside0.mk H
    clear H
    go_wp2_with (first | ((with_reducible refine gate_callee (f := 58) rfl ?_); refine goesL_ (some 25) rfl rfl Try.func58 (by kernel_rfl) rfl #[.slice A0 l0.length c0] rfl argsB ?_; (with_reducible refine (impl_ranked.calls kj3 _ _ l0 t276 _ ?side1 ?side2 A14.out).mono ?_); (case side1 => repeat (first | exact (Kd.C_below HR0.out HB.out) | (with_reducible refine Kd.C_alloc ?_ _) | (with_reducible refine Kd.C_drewN ?_ _) | (with_reducible refine Kd.C_drew ?_))); (case side2 => exact HC0.out); rintro e w15 ⟨v277, rfl, ho0, hb⟩; refine ⟨_, rfl, ?_⟩; have HO278 := Aside0.mk (Kd.R_lower ho0 (below_size (bW HB))); replace HB := uB HB hb; (try clear hb); (try clear hk); (try clear ho0); obtain ⟨Ao16, co16, eo16⟩ := Kd.R_slice HO278.out; subst eo16))
    (try simp only [Act.put, List.setIfInBounds_toArray, List.set_cons_zero, List.set_cons_succ])
    go_loopg [8, 27] kj3 (fun kq v8 v27 w' => ∃ (x8_2 : List Int) (x27_2 : Int), v27 = .int .i64 x27_2 ∧ Aside0 (impl_TripFor.l0 kq a1 a2 x8_2 t276 (t276.length : Int) x27_2 = some (r1, r2)) ∧ Aside0 (kq ≤ kj3) ∧ Aside0 (Kd.R (Kd.int .i64) 3 w' w.heap.size (fun _ => True) v8 x8_2) ∧ Aside0 (Kd.R k25 25 w' w.heap.size (fun _ => True) (.slice Ao16 t276.length co16) t276) ∧ Aside0 (Below w.heap.size w w'))
    case atStart => exact ⟨(([] : List Int)), (0), rB, H', ⟨Nat.le_refl _⟩, ⟨by first | exact Kd.R_nil _ _ _ _ _ | exact Kd.N_nil _ _ _ _ _ | exact Kd.V_nil _ _ _ _ _ | exact Kd.Q_nil _ _ _ _ _ | exact Kd.S_nil _ _ _ _ _⟩, ⟨upR HO278.out⟩, (aB HB)⟩
    case round =>
     clear H'
     obtain ⟨x8_2, x27_2, rfl, HA, HK2, HO_8, HO_25, HB⟩ := hrel
     cases gk with
     | zero => exact absurd HA.out (by simp [impl_TripFor.l0])
     | succ k2 =>
      have H := HA.out
      clear HA
      simp only [impl_TripFor.l0] at H
      replace H := ifD H
      rcases H with ⟨H, -, c17b0⟩ | ⟨H, -, c17b0⟩
      ·by_cases c18 : 0 ≤ x27_2
       ·rw [if_pos c18] at H
        have c18b0 : decide (0 ≤ x27_2) = true := decide_eq_true c18
        clear c18
        by_cases c19 : x27_2 < (t276.length : Int)
        ·rw [if_pos c19] at H
         have c19b0 : decide (x27_2 < (t276.length : Int)) = true := decide_eq_true c19
         clear c19
         replace H := ifD H
         rcases H with ⟨H, -, c20b0⟩ | ⟨H, -, c20b0⟩
         ·replace H := ifD H
          rcases H with ⟨H, -, c21b0⟩ | ⟨H, -, c21b0⟩
          ·by_cases c22 : x8_2.length < 17592186044416
           ·rw [if_pos c22] at H
            have LMc22 := Aside0.mk c22
            clear c22
            obtain ⟨y281, hy281⟩ : ∃ y_ : List Int, y_ = (x8_2 ++ [(rd_T25 t276 x27_2).f0]) := ⟨_, rfl⟩
            replace H : (impl_TripFor.l0 k2 a1 a2 y281 t276 (t276.length : Int) (wrap64 (x27_2 + 1))) = some (r1, r2) := by first | (rw [hy281]; with_reducible exact H) | (have H2_ := (Option.bind_some _ _).symm.trans H; rw [hy281]; with_reducible exact H2_) | (have H2_ := (Option.bind_some _ _).symm.trans H; with_reducible exact H2_) | with_reducible exact H | (rw [hy281]; exact H) | exact H
            have Ny281 := Aside0.mk hy281
            clear hy281
            have H' := Aside0.mk H
            clear H
            have p279 : 0 ≤ (x27_2 : Int) := of_decide_eq_true asmB
            have q279 : x27_2 < (t276.length : Int) := of_decide_eq_true asmB
            obtain ⟨ad279, e279, hx279_0, hx279_1, hx279_2, hx279_3, hx279_4⟩ := at_T25 (Kd.R_reads' HO_25.out).2.2 x27_2 p279 q279
            cases e279
            replace p279 := eq_true p279
            replace q279 := eq_true q279
            go_wp2_with (first | ((with_reducible refine gD 10 ?_); (try (refine gate_guard (by rfl) ?_; dsimp only)); refine bxE 10 25 #[.int .i64 0, .int .i64 0, .int .i64 0, .int .i64 0, .int .i64 0] fun gb280 w23 hg hbox hb => ?_; have BK280 := Aside0.mk hbox; have GE280 := gB HB hg; replace HO_8 := uR HO_8 hb; replace HO_25 := Aside0.mk (Kd.R_below (Kd.R_elderB (upR HO_25.out) gb280 (Nat.le_of_eq hg.symm)) hb); replace HB := uB HB hb; clear hb hbox hg; have ⟨hcz24_0, hcz24_1, hcz24_2, hcz24_3, hcz24_4, hfz24_0⟩ := cz5 BK280; obtain ⟨Ao25, co25, eo25⟩ := Kd.R_slice HO_8.out; subst eo25) | ((with_reducible refine gate_builtin (b := .append) (xs := #[.tmp 41, .tmp 44]) rfl ?_); (try (refine gate_guard (by rfl) ?_; dsimp only)); at_builtin; refine Kd.R_append (Kd.int .i64) (w0 := w) w.heap.size rfl (.tmp 41) (.tmp 44) 35 3 (.int .i64 0) 8 rfl Try.underlying35 info3 rfl (by decide) (by omega) (.slice Ao25 x8_2.length co25) x8_2 ((rd_T25 t276 x27_2).f0) [.int .i64 ((rd_T25 t276 x27_2).f0)] (fun _ => True) (fun _ => False) rfl (by first | (go_simp; done) | (go_simp; rfl)) ?aP (fun _ hk => hk.elim) ?aF ?aO ?aB ?aS ?aL ?_; (case aP => exact rfl); (case aB => exact (bW HB)); (case aF => exact (fun _ _ => trivial)); (case aO => exact (by (with_reducible repeat (first | apply Kd.R_alloc | apply Kd.R_drewN | apply Kd.R_drew)); exact Kd.R_mono (Kd.R_far (p := ⟨gb280, 4, none⟩) (Kd.R_far (p := ⟨gb280, 3, none⟩) (Kd.R_far (p := ⟨gb280, 2, none⟩) (Kd.R_far (p := ⟨gb280, 1, none⟩) (Kd.R_far (p := ⟨gb280, 0, none⟩) (Kd.R_types HO_8.out BK280.out (by decide)) (fun _ hk => hk.2) (.int .i64 ((rd_T25 t276 x27_2).f0))) (fun _ hk => hk.2) (.int .i64 ((rd_T25 t276 x27_2).f1))) (fun _ hk => hk.2) (.int .i64 ((rd_T25 t276 x27_2).f2))) (fun _ hk => hk.2) (.int .i64 ((rd_T25 t276 x27_2).f3))) (fun _ hk => hk.2) (.int .i64 ((rd_T25 t276 x27_2).f4))) (fun _ hk => trivial))); (case aS => exact (below_size (bW HB))); (case aL => have := LMc22.out; omega); intro v282 w26 ho hb hg hat; rw [← Ny281.out] at ho; have HO283 := Aside0.mk (ho); replace HO_25 := Aside0.mk (Kd.R_over' (by (with_reducible repeat (first | apply Kd.R_alloc | apply Kd.R_drewN | apply Kd.R_drew)); exact (Kd.R_mono (Kd.R_far (p := ⟨gb280, 4, none⟩) (Kd.R_far (p := ⟨gb280, 3, none⟩) (Kd.R_far (p := ⟨gb280, 2, none⟩) (Kd.R_far (p := ⟨gb280, 1, none⟩) (Kd.R_far (p := ⟨gb280, 0, none⟩) (Kd.R_mono HO_25.out (fun k_ hk => (⟨hk, hk.2⟩ : _ ∧ k_ ≠ gb280))) (fun _ hk => hk.2) (.int .i64 ((rd_T25 t276 x27_2).f0))) (fun _ hk => hk.2) (.int .i64 ((rd_T25 t276 x27_2).f1))) (fun _ hk => hk.2) (.int .i64 ((rd_T25 t276 x27_2).f2))) (fun _ hk => hk.2) (.int .i64 ((rd_T25 t276 x27_2).f3))) (fun _ hk => hk.2) (.int .i64 ((rd_T25 t276 x27_2).f4))) (fun _ h_ => h_.1))) (Kd.R_typed (by (with_reducible repeat (first | apply Kd.R_alloc | apply Kd.R_drewN | apply Kd.R_drew)); exact (Kd.R_mono (Kd.R_far (p := ⟨gb280, 4, none⟩) (Kd.R_far (p := ⟨gb280, 3, none⟩) (Kd.R_far (p := ⟨gb280, 2, none⟩) (Kd.R_far (p := ⟨gb280, 1, none⟩) (Kd.R_far (p := ⟨gb280, 0, none⟩) (Kd.R_types HO_8.out BK280.out (by decide)) (fun _ hk => hk.2) (.int .i64 ((rd_T25 t276 x27_2).f0))) (fun _ hk => hk.2) (.int .i64 ((rd_T25 t276 x27_2).f1))) (fun _ hk => hk.2) (.int .i64 ((rd_T25 t276 x27_2).f2))) (fun _ hk => hk.2) (.int .i64 ((rd_T25 t276 x27_2).f3))) (fun _ hk => hk.2) (.int .i64 ((rd_T25 t276 x27_2).f4))) (fun _ h_ => h_.1)))) (by decide) hg); replace BK280 := Aside0.mk (blk_grown (g := gb280) (o := .cells #[.int .i64 ((rd_T25 t276 x27_2).f0), .int .i64 ((rd_T25 t276 x27_2).f1), .int .i64 ((rd_T25 t276 x27_2).f2), .int .i64 ((rd_T25 t276 x27_2).f3), .int .i64 ((rd_T25 t276 x27_2).f4)] 25 (0, 0)) (by exact pW BK280) hg (Kd.R_ne HO_8.out BK280.out (by decide))); replace HB := Aside0.mk (hb); clear HO_8; clear ho hb hg hat))
            go_roundg k2
            case measure => have := HJ3.out; have := HK2.out; omega
            case rel => exact ⟨(y281), (wrap64 (x27_2 + 1)), rB, H', ⟨by have := HJ3.out; have := HK2.out; omega⟩, ⟨upR HO283.out⟩, ⟨by (with_reducible repeat (first | apply Kd.R_alloc | apply Kd.R_drewN | apply Kd.R_drew)); exact Kd.R_mono HO_25.out (fun _ hk => trivial)⟩, (aB HB)⟩
           ·rw [if_neg c22] at H
            exact absurd H (by simp)
          ·have H' := Aside0.mk H
           clear H
           have p279 : 0 ≤ (x27_2 : Int) := of_decide_eq_true asmB
           have q279 : x27_2 < (t276.length : Int) := of_decide_eq_true asmB
           obtain ⟨ad279, e279, hx279_0, hx279_1, hx279_2, hx279_3, hx279_4⟩ := at_T25 (Kd.R_reads' HO_25.out).2.2 x27_2 p279 q279
           cases e279
           replace p279 := eq_true p279
           replace q279 := eq_true q279
           go_wp2_with (first | ((with_reducible refine gD 10 ?_); (try (refine gate_guard (by rfl) ?_; dsimp only)); refine bxE 10 25 #[.int .i64 0, .int .i64 0, .int .i64 0, .int .i64 0, .int .i64 0] fun gb280 w27 hg hbox hb => ?_; have BK280 := Aside0.mk hbox; have GE280 := gB HB hg; replace HO_8 := uR HO_8 hb; replace HO_25 := Aside0.mk (Kd.R_below (Kd.R_elderB (upR HO_25.out) gb280 (Nat.le_of_eq hg.symm)) hb); replace HB := uB HB hb; clear hb hbox hg; have ⟨hcz28_0, hcz28_1, hcz28_2, hcz28_3, hcz28_4, hfz28_0⟩ := cz5 BK280; obtain ⟨Ao29, co29, eo29⟩ := Kd.R_slice HO_8.out; subst eo29))
           go_roundg k2
           case measure => have := HJ3.out; have := HK2.out; omega
           case rel => exact ⟨(x8_2), (wrap64 (x27_2 + 1)), rB, H', ⟨by have := HJ3.out; have := HK2.out; omega⟩, ⟨by (with_reducible repeat (first | apply Kd.R_alloc | apply Kd.R_drewN | apply Kd.R_drew)); exact Kd.R_mono (Kd.R_far (p := ⟨gb280, 4, none⟩) (Kd.R_far (p := ⟨gb280, 3, none⟩) (Kd.R_far (p := ⟨gb280, 2, none⟩) (Kd.R_far (p := ⟨gb280, 1, none⟩) (Kd.R_far (p := ⟨gb280, 0, none⟩) (Kd.R_types HO_8.out BK280.out (by decide)) (fun _ hk => hk.2) (.int .i64 ((rd_T25 t276 x27_2).f0))) (fun _ hk => hk.2) (.int .i64 ((rd_T25 t276 x27_2).f1))) (fun _ hk => hk.2) (.int .i64 ((rd_T25 t276 x27_2).f2))) (fun _ hk => hk.2) (.int .i64 ((rd_T25 t276 x27_2).f3))) (fun _ hk => hk.2) (.int .i64 ((rd_T25 t276 x27_2).f4))) (fun _ hk => trivial)⟩, ⟨by (with_reducible repeat (first | apply Kd.R_alloc | apply Kd.R_drewN | apply Kd.R_drew)); exact Kd.R_mono (Kd.R_far (p := ⟨gb280, 4, none⟩) (Kd.R_far (p := ⟨gb280, 3, none⟩) (Kd.R_far (p := ⟨gb280, 2, none⟩) (Kd.R_far (p := ⟨gb280, 1, none⟩) (Kd.R_far (p := ⟨gb280, 0, none⟩) (Kd.R_mono HO_25.out (fun k_ hk => (⟨hk, hk.2⟩ : _ ∧ k_ ≠ gb280))) (fun _ hk => hk.2) (.int .i64 ((rd_T25 t276 x27_2).f0))) (fun _ hk => hk.2) (.int .i64 ((rd_T25 t276 x27_2).f1))) (fun _ hk => hk.2) (.int .i64 ((rd_T25 t276 x27_2).f2))) (fun _ hk => hk.2) (.int .i64 ((rd_T25 t276 x27_2).f3))) (fun _ hk => hk.2) (.int .i64 ((rd_T25 t276 x27_2).f4))) (fun _ hk => trivial)⟩, (aB HB)⟩
         ·have H' := Aside0.mk H
          clear H
          have p279 : 0 ≤ (x27_2 : Int) := of_decide_eq_true asmB
          have q279 : x27_2 < (t276.length : Int) := of_decide_eq_true asmB
          obtain ⟨ad279, e279, hx279_0, hx279_1, hx279_2, hx279_3, hx279_4⟩ := at_T25 (Kd.R_reads' HO_25.out).2.2 x27_2 p279 q279
          cases e279
          replace p279 := eq_true p279
          replace q279 := eq_true q279
          go_wp2_with (first | ((with_reducible refine gD 10 ?_); (try (refine gate_guard (by rfl) ?_; dsimp only)); refine bxE 10 25 #[.int .i64 0, .int .i64 0, .int .i64 0, .int .i64 0, .int .i64 0] fun gb280 w30 hg hbox hb => ?_; have BK280 := Aside0.mk hbox; have GE280 := gB HB hg; replace HO_8 := uR HO_8 hb; replace HO_25 := Aside0.mk (Kd.R_below (Kd.R_elderB (upR HO_25.out) gb280 (Nat.le_of_eq hg.symm)) hb); replace HB := uB HB hb; clear hb hbox hg; have ⟨hcz31_0, hcz31_1, hcz31_2, hcz31_3, hcz31_4, hfz31_0⟩ := cz5 BK280))
          go_roundg k2
          case measure => have := HJ3.out; have := HK2.out; omega
          case rel => exact ⟨(x8_2), (wrap64 (x27_2 + 1)), rB, H', ⟨by have := HJ3.out; have := HK2.out; omega⟩, ⟨by (with_reducible repeat (first | apply Kd.R_alloc | apply Kd.R_drewN | apply Kd.R_drew)); exact Kd.R_mono (Kd.R_far (p := ⟨gb280, 4, none⟩) (Kd.R_far (p := ⟨gb280, 3, none⟩) (Kd.R_far (p := ⟨gb280, 2, none⟩) (Kd.R_far (p := ⟨gb280, 1, none⟩) (Kd.R_far (p := ⟨gb280, 0, none⟩) (Kd.R_types HO_8.out BK280.out (by decide)) (fun _ hk => hk.2) (.int .i64 ((rd_T25 t276 x27_2).f0))) (fun _ hk => hk.2) (.int .i64 ((rd_T25 t276 x27_2).f1))) (fun _ hk => hk.2) (.int .i64 ((rd_T25 t276 x27_2).f2))) (fun _ hk => hk.2) (.int .i64 ((rd_T25 t276 x27_2).f3))) (fun _ hk => hk.2) (.int .i64 ((rd_T25 t276 x27_2).f4))) (fun _ hk => trivial)⟩, ⟨by (with_reducible repeat (first | apply Kd.R_alloc | apply Kd.R_drewN | apply Kd.R_drew)); exact Kd.R_mono (Kd.R_far (p := ⟨gb280, 4, none⟩) (Kd.R_far (p := ⟨gb280, 3, none⟩) (Kd.R_far (p := ⟨gb280, 2, none⟩) (Kd.R_far (p := ⟨gb280, 1, none⟩) (Kd.R_far (p := ⟨gb280, 0, none⟩) (Kd.R_mono HO_25.out (fun k_ hk => (⟨hk, hk.2⟩ : _ ∧ k_ ≠ gb280))) (fun _ hk => hk.2) (.int .i64 ((rd_T25 t276 x27_2).f0))) (fun _ hk => hk.2) (.int .i64 ((rd_T25 t276 x27_2).f1))) (fun _ hk => hk.2) (.int .i64 ((rd_T25 t276 x27_2).f2))) (fun _ hk => hk.2) (.int .i64 ((rd_T25 t276 x27_2).f3))) (fun _ hk => hk.2) (.int .i64 ((rd_T25 t276 x27_2).f4))) (fun _ hk => trivial)⟩, (aB HB)⟩
        ·rw [if_neg c19] at H
         exact absurd H (by simp)
       ·rw [if_neg c18] at H
        exact absurd H (by simp)
      ·simp only [Option.some.injEq, Prod.mk.injEq] at H
       obtain ⟨rfl, rfl⟩ := H
       go_wp2
       go_ret2
       exact ⟨_, eB, upR HO_8.out, (bW HB)⟩

/-! ### laws_rBig: function 37 -/
def laws_rBig.f (l0 : List Int) : Option (Bool) := some (decide ((l0.length : Int) > 65536))
set_option maxHeartbeats 8000000 in
set_option maxRecDepth 100000 in
theorem laws_rBig.calls (A0 : Option Addr) (c0 : Nat) (l0 : List Int) (r : Bool) (w : World) (hr0 : Kd.C (Kd.int .u8) w A0 l0.length l0) (hc0 : l0.length ≤ c0) (h : laws_rBig.f l0 = some r) :
  Calls Try.prog 37 #[.slice A0 l0.length c0] w fun e w' => e = .returned (.bool r) ∧ Drawn0 w w' := by
 have HR0 := Aside0.mk hr0
 have HC0 := Aside0.mk hc0
 clear hr0 hc0
 have H : (some (decide ((l0.length : Int) > 65536))) = some r := h
 clear h
 obtain rfl := Option.some.inj H
 go_enter Try.func37, Try.ntmps37
 go_wp2
 go_ret
 exact ⟨rB, by repeat (first | exact Drawn0.refl _ | apply Drawn0.step)⟩

/-- A state of type 64 at block g of W; what its slices lead to came in by w0. -/
def IsS64 (w0 W : World) (g : Nat) (f0 : List Int) (f1 f2 : Int) : Prop := ∃ A0 c0, W.heap[g]? = some (.cells #[.slice A0 f0.length c0, .int .i64 f1, .int .u64 f2] 64 (0, 0)) ∧ w0.heap.size ≤ g ∧ Kd.C (Kd.int .u8) w0 A0 f0.length f0
theorem IsS64.grown {w0 W : World} {g : Nat} {f0 : List Int} {f1 : Int} {f2 : Int} {W1 : World} {row : Option Nat} (h : IsS64 w0 W g f0 f1 f2) (hw : W.grownBy W1 row) (hne : some g ≠ row) : IsS64 w0 W1 g f0 f1 f2 := by
 obtain ⟨A0, c0, hb, hg, hr0⟩ := h
 exact ⟨A0, c0, blk_grown hb hw hne, hg, hr0⟩
theorem IsS64.own_neN {w0 W : World} {g : Nat} {f0 : List Int} {f1 : Int} {f2 : Int} {α : Type} {d : Kd α} {e : Nat} {base : Nat} {ok : Nat → Prop} {v : Value} {xs : List α} (h : IsS64 w0 W g f0 f1 f2) (ho : Kd.N d e W base ok v xs) (ht : e ≠ 64) : some g ≠ v.ownBlock := by
 obtain ⟨A0, c0, hb, hg, hr0⟩ := h
 exact Kd.N_ne ho hb ht
theorem IsS64.fresh {w0 W : World} {g : Nat} {f0 : List Int} {f1 : Int} {f2 : Int} (h : IsS64 w0 W g f0 f1 f2) : ∀ k, W.heap.size ≤ k → k ≠ g := by
 obtain ⟨A0, c0, hb, hg, hr0⟩ := h
 exact Kd.freshB hb
theorem IsS64.kept {w0 W : World} {g : Nat} {f0 : List Int} {f1 : Int} {f2 : Int} {W1 : World} {S : Nat → Prop} (h : IsS64 w0 W g f0 f1 f2) (hk : Kept W W1 S) (hne : ¬ S g) : IsS64 w0 W1 g f0 f1 f2 := by
 obtain ⟨A0, c0, hb, hg, hr0⟩ := h
 exact ⟨A0, c0, blk_kept hb hk hne, hg, hr0⟩
theorem IsS64.below {w0 W : World} {g : Nat} {f0 : List Int} {f1 : Int} {f2 : Int} {W1 : World} (h : IsS64 w0 W g f0 f1 f2) (hw : Below W.heap.size W W1) : IsS64 w0 W1 g f0 f1 f2 := h.grown (grown_of_below hw none) (by simp)
theorem IsS64.alloc {w0 W : World} {g : Nat} {f0 : List Int} {f1 : Int} {f2 : Int} (h : IsS64 w0 W g f0 f1 f2) (o : Obj) : IsS64 w0 (W.alloc o) g f0 f1 f2 := h.below (below_alloc (Below.refl _ _) o)
theorem IsS64.drewN {w0 W : World} {g : Nat} {f0 : List Int} {f1 : Int} {f2 : Int} (h : IsS64 w0 W g f0 f1 f2) (m : Nat) : IsS64 w0 (W.drewN m) g f0 f1 f2 := h
theorem IsS64.drew {w0 W : World} {g : Nat} {f0 : List Int} {f1 : Int} {f2 : Int} (h : IsS64 w0 W g f0 f1 f2) : IsS64 w0 W.drew g f0 f1 f2 := h
theorem IsS64.at_ {w0 W : World} {g : Nat} {f0 : List Int} {f1 : Int} {f2 : Int} {w' : World} {m : Nat} (hq : W.drewN m = w') (h : IsS64 w0 W g f0 f1 f2) : IsS64 w0 w' g f0 f1 f2 := by subst hq; exact IsS64.drewN h m
theorem IsS64.apart {w0 W : World} {g : Nat} {f0 : List Int} {f1 : Int} {f2 : Int} {α : Type} {d : Kd α} {e : Nat} {base : Nat} {ok : Nat → Prop} {v : Value} {xs : List α} (h : IsS64 w0 W g f0 f1 f2) (ho : d.R e W base ok v xs) (ht : ∀ q, q ∈ e :: d.E → q ≠ 64) : d.R e W base (fun k => ok k ∧ k ≠ g) v xs := by
 obtain ⟨A0, c0, hb, hg, hr0⟩ := h
 exact Kd.R_types ho hb ht
theorem IsS64.own_ne {w0 W : World} {g : Nat} {f0 : List Int} {f1 : Int} {f2 : Int} {α : Type} {d : Kd α} {e : Nat} {base : Nat} {ok : Nat → Prop} {v : Value} {xs : List α} (h : IsS64 w0 W g f0 f1 f2) (ho : d.R e W base ok v xs) (ht : e ≠ 64) : some g ≠ v.ownBlock := by
 obtain ⟨A0, c0, hb, hg, hr0⟩ := h
 exact Kd.R_ne ho hb ht
theorem IsS64.apartQ {w0 W : World} {g : Nat} {f0 : List Int} {f1 : Int} {f2 : Int} {α : Type} {d : Kd α} {e : Nat} {base : Nat} {ok : Nat → Prop} {v : Value} {xs : List α} (h : IsS64 w0 W g f0 f1 f2) (ho : d.Q e W base ok v xs) (ht : ∀ q, q ∈ e :: d.E → q ≠ 64) : d.Q e W base (fun k => ok k ∧ k ≠ g) v xs := by
 obtain ⟨A0, c0, hb, hg, hr0⟩ := h
 exact Kd.Q_types ho hb ht
theorem IsS64.own_neQ {w0 W : World} {g : Nat} {f0 : List Int} {f1 : Int} {f2 : Int} {α : Type} {d : Kd α} {e : Nat} {base : Nat} {ok : Nat → Prop} {v : Value} {xs : List α} (h : IsS64 w0 W g f0 f1 f2) (ho : d.Q e W base ok v xs) (ht : e ≠ 64) : some g ≠ v.ownBlock := by
 obtain ⟨A0, c0, hb, hg, hr0⟩ := h
 exact Kd.Q_ne ho hb ht
theorem IsS64.apartS {w0 W : World} {g : Nat} {f0 : List Int} {f1 : Int} {f2 : Int} {α : Type} {d : Kd α} {e : Nat} {base : Nat} {ok : Nat → Prop} {v : Value} {xs : List α} (h : IsS64 w0 W g f0 f1 f2) (ho : d.S e W base ok v xs) (ht : ∀ q, q ∈ e :: d.E → q ≠ 64) : d.S e W base (fun k => ok k ∧ k ≠ g) v xs := by
 obtain ⟨A0, c0, hb, hg, hr0⟩ := h
 exact Kd.S_types ho hb ht
theorem IsS64.own_neS {w0 W : World} {g : Nat} {f0 : List Int} {f1 : Int} {f2 : Int} {α : Type} {d : Kd α} {e : Nat} {base : Nat} {ok : Nat → Prop} {v : Value} {xs : List α} (h : IsS64 w0 W g f0 f1 f2) (ho : d.S e W base ok v xs) (ht : e ≠ 64) : some g ≠ v.ownBlock := by
 obtain ⟨A0, c0, hb, hg, hr0⟩ := h
 exact Kd.S_ne ho hb ht
theorem IsS64.lt {w0 W : World} {g : Nat} {f0 : List Int} {f1 : Int} {f2 : Int} (h : IsS64 w0 W g f0 f1 f2) : g < W.heap.size := by
 obtain ⟨A0, c0, hb, hg, hr0⟩ := h
 exact blk_lt hb
theorem IsS64.ge {w0 W : World} {g : Nat} {f0 : List Int} {f1 : Int} {f2 : Int} (h : IsS64 w0 W g f0 f1 f2) : w0.heap.size ≤ g := by
 obtain ⟨A0, c0, hb, hg, hr0⟩ := h
 exact hg
theorem IsS64.ne_blk {w0 W : World} {g : Nat} {f0 : List Int} {f1 : Int} {f2 : Int} {a : Nat} {cs : Array Value} {t : TypeId} {fr : Nat × Nat} (h : IsS64 w0 W g f0 f1 f2) (hb2 : W.heap[a]? = some (.cells cs t fr)) (ht : t ≠ 64) : g ≠ a := by
 obtain ⟨A0, c0, hb, hg, hr0⟩ := h
 rintro rfl
 rw [hb] at hb2
 injection hb2 with hb2
 injection hb2 with _ ht2
 exact ht ht2.symm
theorem IsS64.far {w0 W : World} {g : Nat} {f0 : List Int} {f1 : Int} {f2 : Int} {p : Addr} (h : IsS64 w0 W g f0 f1 f2) (hne : g ≠ p.block) (u : Value) : IsS64 w0 (W.setCell p u) g f0 f1 f2 := by
 obtain ⟨A0, c0, hb, hg, hr0⟩ := h
 exact ⟨A0, c0, blk_far hb hne u, hg, hr0⟩
theorem cellS64_0 {W : World} {g : Nat} {A0 : Option Addr} {c0 : Nat} {f0 : List Int} {f1 : Int} {f2 : Int} (h : W.heap[g]? = some (.cells #[.slice A0 f0.length c0, .int .i64 f1, .int .u64 f2] 64 (0, 0))) : W.cell? ⟨g, 0, none⟩ = some (.slice A0 f0.length c0) := (blk_cell h 0).trans rfl
theorem cellS64_1 {W : World} {g : Nat} {A0 : Option Addr} {c0 : Nat} {f0 : List Int} {f1 : Int} {f2 : Int} (h : W.heap[g]? = some (.cells #[.slice A0 f0.length c0, .int .i64 f1, .int .u64 f2] 64 (0, 0))) : W.cell? ⟨g, 1, none⟩ = some (.int .i64 f1) := (blk_cell h 1).trans rfl
theorem IsS64.set_1 {w0 W : World} {g : Nat} {f0 : List Int} {f1 : Int} {f2 : Int} (h : IsS64 w0 W g f0 f1 f2) (x : Int) : IsS64 w0 (W.setCell ⟨g, 1, none⟩ (.int .i64 x)) g f0 x f2 := by
 obtain ⟨A0, c0, hb, hg, hr0⟩ := h
 exact ⟨A0, c0, by simpa using blk_set hb 1 (.int .i64 x), hg, hr0⟩
theorem cellS64_2 {W : World} {g : Nat} {A0 : Option Addr} {c0 : Nat} {f0 : List Int} {f1 : Int} {f2 : Int} (h : W.heap[g]? = some (.cells #[.slice A0 f0.length c0, .int .i64 f1, .int .u64 f2] 64 (0, 0))) : W.cell? ⟨g, 2, none⟩ = some (.int .u64 f2) := (blk_cell h 2).trans rfl
theorem IsS64.set_2 {w0 W : World} {g : Nat} {f0 : List Int} {f1 : Int} {f2 : Int} (h : IsS64 w0 W g f0 f1 f2) (x : Int) : IsS64 w0 (W.setCell ⟨g, 2, none⟩ (.int .u64 x)) g f0 f1 x := by
 obtain ⟨A0, c0, hb, hg, hr0⟩ := h
 exact ⟨A0, c0, by simpa using blk_set hb 2 (.int .u64 x), hg, hr0⟩
theorem IsS64.new (w0 W : World) (A0 : Option Addr) (c0 : Nat) (f0 : List Int) (f1 f2 : Int) (hB : Below w0.heap.size w0 W) (hr0 : Kd.C (Kd.int .u8) w0 A0 f0.length f0) : IsS64 w0 (W.alloc (.cells #[.slice A0 f0.length c0, .int .i64 f1, .int .u64 f2] 64)) W.heap.size f0 f1 f2 := ⟨A0, c0, by simpa using heap_alloc_new W _, hB.size, hr0⟩

/-! ### spec_l1Cur_next: function 73 -/
def spec_l1Cur_next.f (s0_0 : List Int) (s0_1 s0_2 : Int) : Option (Int × Int × Int) := if s0_1 < (s0_0.length : Int) then (if 0 ≤ s0_1 then (if (wrap64 (s0_1 + 1)) ≤ (s0_0.length : Int) then (some (wrap64 (rd s0_0 s0_1), wrap64 (s0_1 + 1), IntKind.u64.wrap ((IntKind.u64.wrap ((IntKind.u64.wrap (s0_2 * 6364136223846793005)) + (IntKind.u64.wrap (wrap64 (rd s0_0 s0_1))))) + 933933))) else (some (wrap64 (Go.bits .and .u64 ((IntKind.u64.wrap ((IntKind.u64.wrap ((IntKind.u64.wrap (s0_2 * 6364136223846793005)) + (IntKind.u64.wrap (wrap64 (rd s0_0 s0_1))))) + 933933)) / 1099511627776) 255), wrap64 (s0_1 + 1), IntKind.u64.wrap ((IntKind.u64.wrap ((IntKind.u64.wrap (s0_2 * 6364136223846793005)) + (IntKind.u64.wrap (wrap64 (rd s0_0 s0_1))))) + 933933)))) else (none)) else (if (wrap64 (s0_1 + 1)) ≤ (s0_0.length : Int) then (some (0, wrap64 (s0_1 + 1), IntKind.u64.wrap ((IntKind.u64.wrap ((IntKind.u64.wrap (s0_2 * 6364136223846793005)) + 0)) + 933933))) else (some (wrap64 (Go.bits .and .u64 ((IntKind.u64.wrap ((IntKind.u64.wrap ((IntKind.u64.wrap (s0_2 * 6364136223846793005)) + 0)) + 933933)) / 1099511627776) 255), wrap64 (s0_1 + 1), IntKind.u64.wrap ((IntKind.u64.wrap ((IntKind.u64.wrap (s0_2 * 6364136223846793005)) + 0)) + 933933))))
set_option maxHeartbeats 8000000 in
set_option maxRecDepth 100000 in
theorem spec_l1Cur_next.calls (g : Nat) (s0_0 : List Int) (s0_1 s0_2 r1 r2 r3 : Int) (w0 w : World) (hI : IsS64 w0 w g s0_0 s0_1 s0_2) (hB : Below w0.heap.size w0 w) (h : spec_l1Cur_next.f s0_0 s0_1 s0_2 = some (r1, r2, r3)) :
  Calls Try.prog 73 #[.pointer (some ⟨g, 0, none⟩)] w fun e w' => e = .returned (.int .i64 r1) ∧ IsS64 w0 w' g s0_0 r2 r3 ∧ Below w0.heap.size w0 w' ∧ KeepBut w w' g none := by
 have HI0 := Aside0.mk hI
 have HK := Aside0.mk (KeepBut.refl w g none)
 have HL := Aside0.mk hB.size
 clear hI
 have HW0 := Aside0.mk hB.size
 have HB := Aside0.mk hB
 clear hB
 have H := h
 clear h
 unfold spec_l1Cur_next.f at H
 replace H := ifD H
 rcases H with ⟨H, -, c2b0⟩ | ⟨H, -, c2b0⟩
 ·by_cases c3 : 0 ≤ s0_1
  ·rw [if_pos c3] at H
   have c3b0 : decide (0 ≤ s0_1) = true := decide_eq_true c3
   clear c3
   replace H := ifD H
   rcases H with ⟨H, -, c4b0⟩ | ⟨H, -, c4b0⟩
   ·simp only [Option.some.injEq, Prod.mk.injEq] at H
    obtain ⟨rfl, rfl, rfl⟩ := H
    obtain ⟨ASz5_0, cSz5_0, HGz5, hgz5, HSz5_0⟩ := HI0.out
    have hcz5_0 := cellS64_0 HGz5
    have hcz5_1 := cellS64_1 HGz5
    have hcz5_2 := cellS64_2 HGz5
    have hfz5_1 := blk_frozen HGz5 1
    have hfz5_2 := blk_frozen HGz5 2
    clear HGz5 hgz5
    have p284 : 0 ≤ (s0_1 : Int) := of_decide_eq_true asmB
    have q284 : s0_1 < (s0_0.length : Int) := of_decide_eq_true asmB
    obtain ⟨ad284, e284, hx284_0⟩ := Kd.at_int HSz5_0 s0_1 p284 q284
    cases e284
    replace hx284_0 := pw_cell_below HB.out hx284_0
    replace p284 := eq_true p284
    replace q284 := eq_true q284
    go_enter Try.func73, Try.ntmps73
    go_wp2
    repeat (go_quiet (fail); try go_wp2)
    go_ret
    exact ⟨eB, by (try simp only [Int.add_zero]); repeat (first | (with_reducible first | exact HI0.out | apply IsS64.alloc | apply IsS64.drewN | apply IsS64.drew | apply IsS64.set_1 | apply IsS64.set_2) | exact HI0.out), by repeat (first | (with_reducible first | exact HB.out | apply below_alloc | apply pw_below_drewN | apply below_drew1 | refine below_set ?_ (IsS64.ge HI0.out)) | exact HB.out), by repeat (first | (with_reducible first | exact HK.out | apply KeepBut.set_ | apply keep_drewN | apply keep_drew | apply keep_alloc) | exact HK.out)⟩
   ·simp only [Option.some.injEq, Prod.mk.injEq] at H
    obtain ⟨rfl, rfl, rfl⟩ := H
    obtain ⟨ASz6_0, cSz6_0, HGz6, hgz6, HSz6_0⟩ := HI0.out
    have hcz6_0 := cellS64_0 HGz6
    have hcz6_1 := cellS64_1 HGz6
    have hcz6_2 := cellS64_2 HGz6
    have hfz6_1 := blk_frozen HGz6 1
    have hfz6_2 := blk_frozen HGz6 2
    clear HGz6 hgz6
    have p284 : 0 ≤ (s0_1 : Int) := of_decide_eq_true asmB
    have q284 : s0_1 < (s0_0.length : Int) := of_decide_eq_true asmB
    obtain ⟨ad284, e284, hx284_0⟩ := Kd.at_int HSz6_0 s0_1 p284 q284
    cases e284
    replace hx284_0 := pw_cell_below HB.out hx284_0
    replace p284 := eq_true p284
    replace q284 := eq_true q284
    go_enter Try.func73, Try.ntmps73
    go_wp2
    repeat (go_quiet (fail); try go_wp2)
    go_ret
    exact ⟨eB, by (try simp only [Int.add_zero]); repeat (first | (with_reducible first | exact HI0.out | apply IsS64.alloc | apply IsS64.drewN | apply IsS64.drew | apply IsS64.set_1 | apply IsS64.set_2) | exact HI0.out), by repeat (first | (with_reducible first | exact HB.out | apply below_alloc | apply pw_below_drewN | apply below_drew1 | refine below_set ?_ (IsS64.ge HI0.out)) | exact HB.out), by repeat (first | (with_reducible first | exact HK.out | apply KeepBut.set_ | apply keep_drewN | apply keep_drew | apply keep_alloc) | exact HK.out)⟩
  ·rw [if_neg c3] at H
   exact absurd H (by simp)
 ·replace H := ifD H
  rcases H with ⟨H, -, c7b0⟩ | ⟨H, -, c7b0⟩
  ·simp only [Option.some.injEq, Prod.mk.injEq] at H
   obtain ⟨rfl, rfl, rfl⟩ := H
   obtain ⟨ASz8_0, cSz8_0, HGz8, hgz8, HSz8_0⟩ := HI0.out
   have hcz8_0 := cellS64_0 HGz8
   have hcz8_1 := cellS64_1 HGz8
   have hcz8_2 := cellS64_2 HGz8
   have hfz8_1 := blk_frozen HGz8 1
   have hfz8_2 := blk_frozen HGz8 2
   clear HGz8 hgz8
   go_enter Try.func73, Try.ntmps73
   go_wp2
   repeat (go_quiet (fail); try go_wp2)
   go_ret
   exact ⟨eB, by (try simp only [Int.add_zero]); repeat (first | (with_reducible first | exact HI0.out | apply IsS64.alloc | apply IsS64.drewN | apply IsS64.drew | apply IsS64.set_1 | apply IsS64.set_2) | exact HI0.out), by repeat (first | (with_reducible first | exact HB.out | apply below_alloc | apply pw_below_drewN | apply below_drew1 | refine below_set ?_ (IsS64.ge HI0.out)) | exact HB.out), by repeat (first | (with_reducible first | exact HK.out | apply KeepBut.set_ | apply keep_drewN | apply keep_drew | apply keep_alloc) | exact HK.out)⟩
  ·simp only [Option.some.injEq, Prod.mk.injEq] at H
   obtain ⟨rfl, rfl, rfl⟩ := H
   obtain ⟨ASz9_0, cSz9_0, HGz9, hgz9, HSz9_0⟩ := HI0.out
   have hcz9_0 := cellS64_0 HGz9
   have hcz9_1 := cellS64_1 HGz9
   have hcz9_2 := cellS64_2 HGz9
   have hfz9_1 := blk_frozen HGz9 1
   have hfz9_2 := blk_frozen HGz9 2
   clear HGz9 hgz9
   go_enter Try.func73, Try.ntmps73
   go_wp2
   repeat (go_quiet (fail); try go_wp2)
   go_ret
   exact ⟨eB, by (try simp only [Int.add_zero]); repeat (first | (with_reducible first | exact HI0.out | apply IsS64.alloc | apply IsS64.drewN | apply IsS64.drew | apply IsS64.set_1 | apply IsS64.set_2) | exact HI0.out), by repeat (first | (with_reducible first | exact HB.out | apply below_alloc | apply pw_below_drewN | apply below_drew1 | refine below_set ?_ (IsS64.ge HI0.out)) | exact HB.out), by repeat (first | (with_reducible first | exact HK.out | apply KeepBut.set_ | apply keep_drewN | apply keep_drew | apply keep_alloc) | exact HK.out)⟩

end Go.Proofs.Ytldgjibimolcdaa.QFnLeadTrips
