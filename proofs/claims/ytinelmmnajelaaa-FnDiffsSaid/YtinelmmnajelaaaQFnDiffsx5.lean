/- Contracts of Go functions that FnDiffs reaches: the call computes what the plain function says. No condition. -/
import Derived.Test.YtinelmmnajelaaaQFnDiffsx0
import Derived.Test.YtinelmmnajelaaaQFnDiffsx1
import Derived.Test.YtinelmmnajelaaaQFnDiffsx4
namespace Go.Proofs.Ytinelmmnajelaaa.QFnDiffs
open Go.RowKit Go.Proofs.YtinelmmnajelaaaW.PrintWords Go.Proofs.YtinelmmnajelaaaW.PrintLast Go.Proofs.YtinelmmnajelaaaW.PrintMore
attribute [local go_sem] max2_int min2_int max_two min_two max_three min_three max_four min_four   -- for this text's walks alone
set_option linter.unusedVariables false
set_option linter.unusedSimpArgs false

attribute [local go_sem high] eqA26
/-! ### spec_DiffLegs: function 18 -/
mutual
def spec_DiffLegs.j0 : Nat → List (S26) → List (S26) → List (S28) → Bool → Option ((List (S28)) × Bool)
 | 0, _, _, _, _ => none
 | k + 1, x0, x1, x6, x18 => if x18 = true then (some (x6, false)) else (spec_DiffLegs.l0 k x0 x1 x6 0)
def spec_DiffLegs.l0 : Nat → List (S26) → List (S26) → List (S28) → Int → Option ((List (S28)) × Bool)
 | 0, _, _, _, _ => none
 | k + 1, x0, x1, x6, x7 => if x7 < (x0.length : Int) then (spec_DiffLegs.j2 k x0 x1 x6 x7 (decide (x7 < (x1.length : Int)))) else (spec_DiffLegs.j2 k x0 x1 x6 x7 false)
def spec_DiffLegs.j2 : Nat → List (S26) → List (S26) → List (S28) → Int → Bool → Option ((List (S28)) × Bool)
 | 0, _, _, _, _, _ => none
 | k + 1, x0, x1, x6, x7, x29 => if x29 = true then (if 0 ≤ x7 then (if x7 < (x0.length : Int) then (if x7 < (x1.length : Int) then (if (!(((rd_T26 x0 x7).f0) == ((rd_T26 x1 x7).f0)) || (!(((rd_T26 x0 x7).f1) == ((rd_T26 x1 x7).f1)) || (!(((rd_T26 x0 x7).f2) == ((rd_T26 x1 x7).f2)) || (!(((rd_T26 x0 x7).f3) == ((rd_T26 x1 x7).f3)) || (!(((rd_T26 x0 x7).f4) == ((rd_T26 x1 x7).f4))))))) = true then (if x6.length < 1466015503701 then (spec_DiffLegs.l0 k x0 x1 (x6 ++ [(⟨3, x7, (⟨(rd_T26 x0 x7).f0, (rd_T26 x0 x7).f1, (rd_T26 x0 x7).f2, (rd_T26 x0 x7).f3, (rd_T26 x0 x7).f4⟩ : S26), (⟨(rd_T26 x1 x7).f0, (rd_T26 x1 x7).f1, (rd_T26 x1 x7).f2, (rd_T26 x1 x7).f3, (rd_T26 x1 x7).f4⟩ : S26)⟩ : S28)]) (wrap64 (x7 + 1))) else (none)) else (spec_DiffLegs.l0 k x0 x1 x6 (wrap64 (x7 + 1)))) else (none)) else (none)) else (none)) else (spec_DiffLegs.l1 k x0 x1 x6 (wrap64 ((x0.length : Int) - 1)))
def spec_DiffLegs.l1 : Nat → List (S26) → List (S26) → List (S28) → Int → Option ((List (S28)) × Bool)
 | 0, _, _, _, _ => none
 | k + 1, x0, x1, x6, x8 => if x8 ≥ (x1.length : Int) then (if 0 ≤ x8 then (if x8 < (x0.length : Int) then (if x6.length < 1466015503701 then (spec_DiffLegs.l1 k x0 x1 (x6 ++ [(⟨2, x8, (⟨(rd_T26 x0 x8).f0, (rd_T26 x0 x8).f1, (rd_T26 x0 x8).f2, (rd_T26 x0 x8).f3, (rd_T26 x0 x8).f4⟩ : S26), (⟨0, 0, 0, 0, 0⟩ : S26)⟩ : S28)]) (wrap64 (x8 - 1))) else (none)) else (none)) else (none)) else (spec_DiffLegs.l2 k x1 x6 (x0.length : Int))
def spec_DiffLegs.l2 : Nat → List (S26) → List (S28) → Int → Option ((List (S28)) × Bool)
 | 0, _, _, _ => none
 | k + 1, x1, x6, x9 => if x9 < (x1.length : Int) then (if 0 ≤ x9 then (if x6.length < 1466015503701 then (spec_DiffLegs.l2 k x1 (x6 ++ [(⟨1, x9, (⟨0, 0, 0, 0, 0⟩ : S26), (⟨(rd_T26 x1 x9).f0, (rd_T26 x1 x9).f1, (rd_T26 x1 x9).f2, (rd_T26 x1 x9).f3, (rd_T26 x1 x9).f4⟩ : S26)⟩ : S28)]) (wrap64 (x9 + 1))) else (none)) else (none)) else (if (x6.length : Int) > 10 then (some ((([] : List (S28))), false)) else (some (x6, true)))
end
def spec_DiffLegs.f (k : Nat) (l0 : List (S26)) (l1 : List (S26)) : Option ((List (S28)) × Bool) := (some (([] : List (S28)) : List (S28))).bind fun y111 => ((spec_l4Legs.f k l0).bind fun t114 => (if t114 = true then ((spec_l4Legs.f k l1).bind fun t115 => (spec_DiffLegs.j0 k l0 l1 y111 (!t115))) else (spec_DiffLegs.j0 k l0 l1 y111 true)))
theorem spec_DiffLegs.mono_l : ∀ k, (∀ y0 y1 y2 y3, LeO (spec_DiffLegs.j0 k y0 y1 y2 y3) (spec_DiffLegs.j0 (k + 1) y0 y1 y2 y3)) ∧ (∀ y0 y1 y2 y3, LeO (spec_DiffLegs.l0 k y0 y1 y2 y3) (spec_DiffLegs.l0 (k + 1) y0 y1 y2 y3)) ∧ (∀ y0 y1 y2 y3 y4, LeO (spec_DiffLegs.j2 k y0 y1 y2 y3 y4) (spec_DiffLegs.j2 (k + 1) y0 y1 y2 y3 y4)) ∧ (∀ y0 y1 y2 y3, LeO (spec_DiffLegs.l1 k y0 y1 y2 y3) (spec_DiffLegs.l1 (k + 1) y0 y1 y2 y3)) ∧ (∀ y0 y1 y2, LeO (spec_DiffLegs.l2 k y0 y1 y2) (spec_DiffLegs.l2 (k + 1) y0 y1 y2))
 | 0 => ⟨fun _ _ _ _ r h => by simp [spec_DiffLegs.j0] at h, fun _ _ _ _ r h => by simp [spec_DiffLegs.l0] at h, fun _ _ _ _ _ r h => by simp [spec_DiffLegs.j2] at h, fun _ _ _ _ r h => by simp [spec_DiffLegs.l1] at h, fun _ _ _ r h => by simp [spec_DiffLegs.l2] at h⟩
 | k + 1 => by
  obtain ⟨ih0, ih1, ih2, ih3, ih4⟩ := spec_DiffLegs.mono_l k
  refine ⟨?_, ?_, ?_, ?_, ?_⟩
  ·intro y0 y1 y2 y3
   unfold spec_DiffLegs.j0
   repeat' with_reducible first | apply ih0 | apply ih1 | apply ih2 | apply ih3 | apply ih4 | apply spec_l4Legs.mono | exact LeO.refl _ | exact LeO.none _ | refine LeO.ite ?_ ?_ | refine LeO.bind ?_ (fun _ => ?_)
  ·intro y0 y1 y2 y3
   unfold spec_DiffLegs.l0
   repeat' with_reducible first | apply ih0 | apply ih1 | apply ih2 | apply ih3 | apply ih4 | apply spec_l4Legs.mono | exact LeO.refl _ | exact LeO.none _ | refine LeO.ite ?_ ?_ | refine LeO.bind ?_ (fun _ => ?_)
  ·intro y0 y1 y2 y3 y4
   unfold spec_DiffLegs.j2
   repeat' with_reducible first | apply ih0 | apply ih1 | apply ih2 | apply ih3 | apply ih4 | apply spec_l4Legs.mono | exact LeO.refl _ | exact LeO.none _ | refine LeO.ite ?_ ?_ | refine LeO.bind ?_ (fun _ => ?_)
  ·intro y0 y1 y2 y3
   unfold spec_DiffLegs.l1
   repeat' with_reducible first | apply ih0 | apply ih1 | apply ih2 | apply ih3 | apply ih4 | apply spec_l4Legs.mono | exact LeO.refl _ | exact LeO.none _ | refine LeO.ite ?_ ?_ | refine LeO.bind ?_ (fun _ => ?_)
  ·intro y0 y1 y2
   unfold spec_DiffLegs.l2
   repeat' with_reducible first | apply ih0 | apply ih1 | apply ih2 | apply ih3 | apply ih4 | apply spec_l4Legs.mono | exact LeO.refl _ | exact LeO.none _ | refine LeO.ite ?_ ?_ | refine LeO.bind ?_ (fun _ => ?_)
theorem spec_DiffLegs.mono : ∀ a0 a1 k, LeO (spec_DiffLegs.f k a0 a1) (spec_DiffLegs.f (k + 1) a0 a1) := by
 intro a0 a1 k
 obtain ⟨ih0, ih1, ih2, ih3, ih4⟩ := spec_DiffLegs.mono_l k
 unfold spec_DiffLegs.f
 repeat' with_reducible first | apply ih0 | apply ih1 | apply ih2 | apply ih3 | apply ih4 | apply spec_l4Legs.mono | exact LeO.refl _ | exact LeO.none _ | refine LeO.ite ?_ ?_ | refine LeO.bind ?_ (fun _ => ?_)
def spec_DiffLegs.T7 : Bool × List (List Nat × List Nat) := (true, [([], []), ([], []), ([0, 1], [0, 1]), ([2], [2]), ([], []), ([], []), ([4, 5], [4, 5]), ([6], [6]), ([3, 7], [3, 7])])
def spec_DiffLegs.B7 : List Nat := [0, 0, 3, 7, 0, 0, 48, 112, 255]
theorem spec_DiffLegs.tab7 : rtab .any (opsOf Try.f18 7) = spec_DiffLegs.T7 := by kernel_rfl
theorem spec_DiffLegs.bits7 : waitsOk spec_DiffLegs.T7.2 spec_DiffLegs.B7 = true := by kernel_rfl
def spec_DiffLegs.T8 : Bool × List (List Nat × List Nat) := (true, [([], []), ([], []), ([], []), ([], []), ([2, 3], [2, 3]), ([4], [4]), ([], []), ([], []), ([6, 7], [6, 7]), ([8], [8]), ([1, 5, 9], [1, 5, 9]), ([10], [10]), ([0, 11], [0, 11]), ([12, 12, 0, 1, 2, 3, 4, 5, 6, 7, 8, 9, 10, 11, 12], [0, 12])])
def spec_DiffLegs.B8 : List Nat := [0, 0, 0, 0, 12, 28, 0, 0, 192, 448, 1022, 2046, 4095, 8191]
theorem spec_DiffLegs.tab8 : rtab .any (opsOf Try.f18 8) = spec_DiffLegs.T8 := by kernel_rfl
theorem spec_DiffLegs.bits8 : waitsOk spec_DiffLegs.T8.2 spec_DiffLegs.B8 = true := by kernel_rfl
set_option maxHeartbeats 8000000 in
set_option maxRecDepth 100000 in
theorem spec_DiffLegs.calls (k : Nat) (A0 : Option Addr) (c0 : Nat) (l0 : List (S26)) (A1 : Option Addr) (c1 : Nat) (l1 : List (S26)) (r1 : List (S28)) (r2 : Bool) (w : World) (hr0 : Kd.C k26 w A0 l0.length l0) (hc0 : l0.length ≤ c0) (hr1 : Kd.C k26 w A1 l1.length l1) (hc1 : l1.length ≤ c1) (h : spec_DiffLegs.f k l0 l1 = some (r1, r2)) :
  Calls Try.prog 18 #[.slice A0 l0.length c0, .slice A1 l1.length c1] w fun e w' => ∃ v0_ : Value, e = .returned (.tuple #[v0_, .bool r2]) ∧ Kd.R k28 28 w' w.heap.size (fun _ => True) v0_ r1 ∧ Below w.heap.size w w' := by
 have hu26 := Try.underlying26
 have hu28 := Try.underlying28
 have HR0 := Aside0.mk hr0
 have HC0 := Aside0.mk hc0
 clear hr0 hc0
 have HR1 := Aside0.mk hr1
 have HC1 := Aside0.mk hc1
 clear hr1 hc1
 have HB := Aside0.mk (Below.refl w.heap.size w)
 have H := h
 clear h
 unfold spec_DiffLegs.f at H
 obtain ⟨y111, hy111⟩ : ∃ y_ : List (S28), y_ = (([] : List (S28))) := ⟨_, rfl⟩
 replace H : ((spec_l4Legs.f k l0).bind fun t114 => (if t114 = true then ((spec_l4Legs.f k l1).bind fun t115 => (spec_DiffLegs.j0 k l0 l1 y111 (!t115))) else (spec_DiffLegs.j0 k l0 l1 y111 true))) = some (r1, r2) := by first | (rw [hy111]; with_reducible exact H) | (have H2_ := (Option.bind_some _ _).symm.trans H; rw [hy111]; with_reducible exact H2_) | (have H2_ := (Option.bind_some _ _).symm.trans H; with_reducible exact H2_) | with_reducible exact H | (rw [hy111]; exact H) | exact H
 have Ny111 := Aside0.mk hy111
 clear hy111
 have HC3 := Aside0.mk H
 clear H
 go_enter Try.func18, Try.ntmps18
 go_upto_region 2 with (first | ((with_reducible refine gate_dst (N := 10) rfl ?_); (try (refine gate_guard (by rfl) ?_; dsimp only)); refine Kd.R_lit k28 _ 28 ?hg (N := 10) ?hd (xs := ([] : List (S28))) (inner := []) (ok := fun _ => True) (okp := fun _ => True) ?hr ?hp (fun _ hk => hk) trivial (Below.refl _ _) (Nat.le_refl _) (by simp) ?_; (case hd => rfl); (case hg => rfl); (case hr => first | (go_simp; done) | (go_simp; rfl)); (case hp => exact (Reps.none _ _)); intro v112 w4 ho5 hb hg_ hnew_; clear hg_ hnew_; (first | rw [← Ny111.out] at ho5 | (simp only [Int.reduceToNat] at ho5; rw [← Ny111.out] at ho5)); have HO113 := Aside0.mk (Kd.R_lower ho5 (below_size (bW HB))); replace HB := uB HB hb; clear hb ho5))
 (try simp only [Act.put, List.setIfInBounds_toArray, List.set_cons_zero, List.set_cons_succ])
 go_cut [18] (fun v18 wc => ∃ (kq : Nat) (x18_2 : Bool), v18 = .bool x18_2 ∧ Aside0 (spec_DiffLegs.j0 kq l0 l1 y111 x18_2 = some (r1, r2)) ∧ Aside0 (kq ≤ k) ∧ Aside0 (Kd.R k28 28 wc w.heap.size (fun _ => True) v112 y111) ∧ Aside0 (Below w.heap.size w wc))
 case first =>
  have H := HC3.out
  clear HC3
  replace H := bA H
  obtain ⟨t114, A6, H⟩ := H
  rcases Bool.eq_false_or_eq_true t114 with rfl | rfl
  ·replace H := iT rfl H
   replace H := bA H
   obtain ⟨t115, A8, H⟩ := H
   have H' := Aside0.mk H
   clear H
   go_wp2_with (first | ((with_reducible refine gC 64 ?_); refine lA (some 12) Try.func64 (spec_l4Legs.calls k _ _ l0 true _ ?side1 ?side2 A6.out) ?_; (case side1 => repeat (first | exact (Kd.C_below HR0.out HB.out) | (with_reducible refine Kd.C_alloc ?_ _) | (with_reducible refine Kd.C_drewN ?_ _) | (with_reducible refine Kd.C_drew ?_))); (case side2 => exact HC0.out); intro w9 hb; replace HO113 := uR HO113 hb; replace HB := uB HB hb; (try clear hb); (try clear hk)) | (go_at_call 64; (with_reducible refine (spec_l4Legs.calls k _ _ l1 t115 _ ?side1 ?side2 A8.out).mono ?_); (case side1 => repeat (first | exact (Kd.C_below HR1.out HB.out) | (with_reducible refine Kd.C_alloc ?_ _) | (with_reducible refine Kd.C_drewN ?_ _) | (with_reducible refine Kd.C_drew ?_))); (case side2 => exact HC1.out); rintro e w10 ⟨rfl, hb⟩; replace HO113 := uR HO113 hb; replace HB := uB HB hb; (try clear hb); (try clear hk)))
   go_meet
   case rel => exact ⟨_, (!t115), rB, H', leB, ⟨upR HO113.out⟩, (aB HB)⟩
  ·replace H := iF (by decide) H
   have H' := Aside0.mk H
   clear H
   go_wp2_with (first | ((with_reducible refine gC 64 ?_); refine lA (some 12) Try.func64 (spec_l4Legs.calls k _ _ l0 false _ ?side1 ?side2 A6.out) ?_; (case side1 => repeat (first | exact (Kd.C_below HR0.out HB.out) | (with_reducible refine Kd.C_alloc ?_ _) | (with_reducible refine Kd.C_drewN ?_ _) | (with_reducible refine Kd.C_drew ?_))); (case side2 => exact HC0.out); intro w11 hb; replace HO113 := uR HO113 hb; replace HB := uB HB hb; (try clear hb); (try clear hk)))
   go_meet
   case rel => exact ⟨_, (true), rB, H', leB, ⟨upR HO113.out⟩, (aB HB)⟩
 case rest =>
  clear HC3
  try clear c1
  obtain ⟨kq, x18_2, rfl, HA, HJ2, HO_6, HB⟩ := hcut
  cases kq with
  | zero => exact absurd HA.out (by simp [spec_DiffLegs.j0])
  | succ kj2 =>
   have H := HA.out
   clear HA
   simp only [spec_DiffLegs.j0] at H
   rcases Bool.eq_false_or_eq_true x18_2 with rfl | rfl
   ·replace H := iT rfl H
    simp only [Option.some.injEq, Prod.mk.injEq] at H
    obtain ⟨rfl, rfl⟩ := H
    go_wp2
    go_ret2
    exact ⟨_, eB, upR HO_6.out, (bW HB)⟩
   ·replace H := iF (by decide) H
    have H' := Aside0.mk H
    clear H
    go_wp2
    go_loopg [6, 7] kj2 (fun kq v6 v7 w' => ∃ (x6_2 : List (S28)) (x7_2 : Int), v7 = .int .i64 x7_2 ∧ Aside0 (spec_DiffLegs.l0 kq l0 l1 x6_2 x7_2 = some (r1, r2)) ∧ Aside0 (kq ≤ kj2) ∧ Aside0 (Kd.R k28 28 w' w.heap.size (fun _ => True) v6 x6_2) ∧ Aside0 (Below w.heap.size w w'))
    case atStart => exact ⟨(y111), (0), rB, H', ⟨Nat.le_refl _⟩, ⟨upR HO_6.out⟩, (aB HB)⟩
    case round =>
     clear H'
     try clear c1
     obtain ⟨x6_2, x7_2, rfl, HA, HK2, HO_6, HB⟩ := hrel
     cases gk with
     | zero => exact absurd HA.out (by simp [spec_DiffLegs.l0])
     | succ k2 =>
      have H := HA.out
      clear HA
      simp only [spec_DiffLegs.l0] at H
      have HC13 := Aside0.mk H
      clear H
      go_upto_region 5 with (fail)
      go_cut [29] (fun v29 wc => ∃ (kq : Nat) (x29_12 : Bool), v29 = .bool x29_12 ∧ Aside0 (spec_DiffLegs.j2 kq l0 l1 x6_2 x7_2 x29_12 = some (r1, r2)) ∧ Aside0 (kq ≤ k2) ∧ Aside0 (Kd.R k28 28 wc w.heap.size (fun _ => True) u6 x6_2) ∧ Aside0 (Below w.heap.size w wc))
      case first =>
       have H := HC13.out
       clear HC13
       replace H := ifD H
       rcases H with ⟨H, -, c14b0⟩ | ⟨H, -, c14b0⟩
       ·(first | rw [c14b0] | (simp only [i64_w, i32_w]; rw [c14b0]) | skip)
        have H' := Aside0.mk H
        clear H
        go_wp2
        go_meet
        case rel => exact ⟨_, (decide (x7_2 < (l1.length : Int))), rB, H', ⟨by have := HJ2.out; have := HK2.out; first | omega | exact Nat.le_refl _⟩, ⟨upR HO_6.out⟩, (aB HB)⟩
       ·(first | rw [c14b0] | (simp only [i64_w, i32_w]; rw [c14b0]) | skip)
        have H' := Aside0.mk H
        clear H
        go_wp2
        go_meet
        case rel => exact ⟨_, (false), rB, H', ⟨by have := HJ2.out; have := HK2.out; first | omega | exact Nat.le_refl _⟩, ⟨upR HO_6.out⟩, (aB HB)⟩
      case rest =>
       clear HC13
       try clear c1
       obtain ⟨kq, x29_12, rfl, HA, HJ12, HO_6, HB⟩ := hcut
       cases kq with
       | zero => exact absurd HA.out (by simp [spec_DiffLegs.j2])
       | succ kj12 =>
        have H := HA.out
        clear HA
        simp only [spec_DiffLegs.j2] at H
        rcases Bool.eq_false_or_eq_true x29_12 with rfl | rfl
        ·replace H := iT rfl H
         by_cases c16 : 0 ≤ x7_2
         ·rw [if_pos c16] at H
          have c16b0 : decide (0 ≤ x7_2) = true := decide_eq_true c16
          clear c16
          by_cases c17 : x7_2 < (l0.length : Int)
          ·rw [if_pos c17] at H
           have c17b0 : decide (x7_2 < (l0.length : Int)) = true := decide_eq_true c17
           clear c17
           by_cases c18 : x7_2 < (l1.length : Int)
           ·rw [if_pos c18] at H
            have c18b0 : decide (x7_2 < (l1.length : Int)) = true := decide_eq_true c18
            clear c18
            by_cases c19 : (!(((rd_T26 l0 x7_2).f0) == ((rd_T26 l1 x7_2).f0)) || (!(((rd_T26 l0 x7_2).f1) == ((rd_T26 l1 x7_2).f1)) || (!(((rd_T26 l0 x7_2).f2) == ((rd_T26 l1 x7_2).f2)) || (!(((rd_T26 l0 x7_2).f3) == ((rd_T26 l1 x7_2).f3)) || (!(((rd_T26 l0 x7_2).f4) == ((rd_T26 l1 x7_2).f4))))))) = true
            ·rw [if_pos c19] at H
             have c19b0 : (!(((rd_T26 l0 x7_2).f0) == ((rd_T26 l1 x7_2).f0)) || (!(((rd_T26 l0 x7_2).f1) == ((rd_T26 l1 x7_2).f1)) || (!(((rd_T26 l0 x7_2).f2) == ((rd_T26 l1 x7_2).f2)) || (!(((rd_T26 l0 x7_2).f3) == ((rd_T26 l1 x7_2).f3)) || (!(((rd_T26 l0 x7_2).f4) == ((rd_T26 l1 x7_2).f4))))))) = true := c19
             clear c19
             by_cases c20 : x6_2.length < 1466015503701
             ·rw [if_pos c20] at H
              have LMc20 := Aside0.mk c20
              clear c20
              obtain ⟨y120, hy120⟩ : ∃ y_ : List (S28), y_ = (x6_2 ++ [(⟨3, x7_2, (⟨(rd_T26 l0 x7_2).f0, (rd_T26 l0 x7_2).f1, (rd_T26 l0 x7_2).f2, (rd_T26 l0 x7_2).f3, (rd_T26 l0 x7_2).f4⟩ : S26), (⟨(rd_T26 l1 x7_2).f0, (rd_T26 l1 x7_2).f1, (rd_T26 l1 x7_2).f2, (rd_T26 l1 x7_2).f3, (rd_T26 l1 x7_2).f4⟩ : S26)⟩ : S28)]) := ⟨_, rfl⟩
              replace H : (spec_DiffLegs.l0 kj12 l0 l1 y120 (wrap64 (x7_2 + 1))) = some (r1, r2) := by first | (rw [hy120]; with_reducible exact H) | (have H2_ := (Option.bind_some _ _).symm.trans H; rw [hy120]; with_reducible exact H2_) | (have H2_ := (Option.bind_some _ _).symm.trans H; with_reducible exact H2_) | with_reducible exact H | (rw [hy120]; exact H) | exact H
              have Ny120 := Aside0.mk hy120
              clear hy120
              have H' := Aside0.mk H
              clear H
              try go_wp2
              replace HO_6 := Aside0.mk (Kd.R_drew HO_6.out)
              replace HB := Aside0.mk (below_drew1 HB.out)
              have p116 : 0 ≤ (x7_2 : Int) := of_decide_eq_true asmB
              have q116 : x7_2 < (l0.length : Int) := of_decide_eq_true asmB
              obtain ⟨ad116, e116, hx116_0, hx116_1, hx116_2, hx116_3, hx116_4⟩ := at_T26 HR0.out x7_2 p116 q116
              have hw116_4 := hx116_4
              have hw116_3 := hx116_3
              have hw116_2 := hx116_2
              have hw116_1 := hx116_1
              have hw116_0 := hx116_0
              cases e116
              replace hx116_0 := bx HB.out hx116_0
              replace hx116_1 := bx HB.out hx116_1
              replace hx116_2 := bx HB.out hx116_2
              replace hx116_3 := bx HB.out hx116_3
              replace hx116_4 := bx HB.out hx116_4
              replace p116 := eq_true p116
              replace q116 := eq_true q116
              have p117 : 0 ≤ (x7_2 : Int) := of_decide_eq_true asmB
              have q117 : x7_2 < (l1.length : Int) := of_decide_eq_true asmB
              obtain ⟨ad117, e117, hx117_0, hx117_1, hx117_2, hx117_3, hx117_4⟩ := at_T26 HR1.out x7_2 p117 q117
              have hw117_4 := hx117_4
              have hw117_3 := hx117_3
              have hw117_2 := hx117_2
              have hw117_1 := hx117_1
              have hw117_0 := hx117_0
              cases e117
              replace hx117_0 := bx HB.out hx117_0
              replace hx117_1 := bx HB.out hx117_1
              replace hx117_2 := bx HB.out hx117_2
              replace hx117_3 := bx HB.out hx117_3
              replace hx117_4 := bx HB.out hx117_4
              replace p117 := eq_true p117
              replace q117 := eq_true q117
              refine sA (n := 9) (S := fun w' => w'.cell? (ad116.add ((x7_2).toNat * 5)) = some (.int .i64 ((rd_T26 l0 x7_2).f0)) ∧ w'.cell? ⟨(ad116.add ((x7_2).toNat * 5)).block, (ad116.add ((x7_2).toNat * 5)).off + 1, none⟩ = some (.int .i64 ((rd_T26 l0 x7_2).f1)) ∧ w'.cell? ⟨(ad116.add ((x7_2).toNat * 5)).block, (ad116.add ((x7_2).toNat * 5)).off + 2, none⟩ = some (.int .i64 ((rd_T26 l0 x7_2).f2)) ∧ w'.cell? ⟨(ad116.add ((x7_2).toNat * 5)).block, (ad116.add ((x7_2).toNat * 5)).off + 3, none⟩ = some (.int .i64 ((rd_T26 l0 x7_2).f3)) ∧ w'.cell? ⟨(ad116.add ((x7_2).toNat * 5)).block, (ad116.add ((x7_2).toNat * 5)).off + 4, none⟩ = some (.int .i64 ((rd_T26 l0 x7_2).f4)) ∧ w'.cell? (ad117.add ((x7_2).toNat * 5)) = some (.int .i64 ((rd_T26 l1 x7_2).f0)) ∧ w'.cell? ⟨(ad117.add ((x7_2).toNat * 5)).block, (ad117.add ((x7_2).toNat * 5)).off + 1, none⟩ = some (.int .i64 ((rd_T26 l1 x7_2).f1)) ∧ w'.cell? ⟨(ad117.add ((x7_2).toNat * 5)).block, (ad117.add ((x7_2).toNat * 5)).off + 2, none⟩ = some (.int .i64 ((rd_T26 l1 x7_2).f2)) ∧ w'.cell? ⟨(ad117.add ((x7_2).toNat * 5)).block, (ad117.add ((x7_2).toNat * 5)).off + 3, none⟩ = some (.int .i64 ((rd_T26 l1 x7_2).f3)) ∧ w'.cell? ⟨(ad117.add ((x7_2).toNat * 5)).block, (ad117.add ((x7_2).toNat * 5)).off + 4, none⟩ = some (.int .i64 ((rd_T26 l1 x7_2).f4))) (ds := []) spec_DiffLegs.tab7 spec_DiffLegs.bits7 #[false, false, false, false, false, false, false, false, false] ⟨(bX HB hw116_0), (bX HB hw116_1), (bX HB hw116_2), (bX HB hw116_3), (bX HB hw116_4), (bX HB hw117_0), (bX HB hw117_1), (bX HB hw117_2), (bX HB hw117_3), (bX HB hw117_4)⟩ fun hHeld HT_ HW_ => ?_
              generalize wc.drew = w21 at HO_6 HB hx116_0 hx116_1 hx116_2 hx116_3 hx116_4 hx117_0 hx117_1 hx117_2 hx117_3 hx117_4 hHeld ⊢
              refine pA 0 32 HT_ ?_
              refine pA 1 33 HT_ ?_
              refine pA 2 34 HT_ ?_
              refine pA 4 36 HT_ ?_
              refine pA 5 37 HT_ ?_
              refine pA 6 38 HT_ ?_
              refine tA 3 35 HT_ HW_ hHeld ?_
              refine tA 7 39 HT_ HW_ hHeld ?_
              refine pA 8 40 HT_ ?_
              refine done_ (done_of HT_.out (by kernel_rfl)) ?_
              try go_wp2
              replace HO_6 := Aside0.mk (Kd.R_drew HO_6.out)
              replace HB := Aside0.mk (below_drew1 HB.out)
              have p118 : 0 ≤ (x7_2 : Int) := of_decide_eq_true asmB
              have q118 : x7_2 < (l0.length : Int) := of_decide_eq_true asmB
              obtain ⟨ad118, e118, hx118_0, hx118_1, hx118_2, hx118_3, hx118_4⟩ := at_T26 HR0.out x7_2 p118 q118
              have hw118_4 := hx118_4
              have hw118_3 := hx118_3
              have hw118_2 := hx118_2
              have hw118_1 := hx118_1
              have hw118_0 := hx118_0
              obtain rfl : ad116 = ad118 := (by injection e118)
              replace hx118_0 := bx HB.out hx118_0
              replace hx118_1 := bx HB.out hx118_1
              replace hx118_2 := bx HB.out hx118_2
              replace hx118_3 := bx HB.out hx118_3
              replace hx118_4 := bx HB.out hx118_4
              replace p118 := eq_true p118
              replace q118 := eq_true q118
              have p119 : 0 ≤ (x7_2 : Int) := of_decide_eq_true asmB
              have q119 : x7_2 < (l1.length : Int) := of_decide_eq_true asmB
              obtain ⟨ad119, e119, hx119_0, hx119_1, hx119_2, hx119_3, hx119_4⟩ := at_T26 HR1.out x7_2 p119 q119
              have hw119_4 := hx119_4
              have hw119_3 := hx119_3
              have hw119_2 := hx119_2
              have hw119_1 := hx119_1
              have hw119_0 := hx119_0
              obtain rfl : ad117 = ad119 := (by injection e119)
              replace hx119_0 := bx HB.out hx119_0
              replace hx119_1 := bx HB.out hx119_1
              replace hx119_2 := bx HB.out hx119_2
              replace hx119_3 := bx HB.out hx119_3
              replace hx119_4 := bx HB.out hx119_4
              replace p119 := eq_true p119
              replace q119 := eq_true q119
              refine sA (n := 14) (S := fun w' => w'.cell? (ad116.add ((x7_2).toNat * 5)) = some (.int .i64 ((rd_T26 l0 x7_2).f0)) ∧ w'.cell? ⟨(ad116.add ((x7_2).toNat * 5)).block, (ad116.add ((x7_2).toNat * 5)).off + 1, none⟩ = some (.int .i64 ((rd_T26 l0 x7_2).f1)) ∧ w'.cell? ⟨(ad116.add ((x7_2).toNat * 5)).block, (ad116.add ((x7_2).toNat * 5)).off + 2, none⟩ = some (.int .i64 ((rd_T26 l0 x7_2).f2)) ∧ w'.cell? ⟨(ad116.add ((x7_2).toNat * 5)).block, (ad116.add ((x7_2).toNat * 5)).off + 3, none⟩ = some (.int .i64 ((rd_T26 l0 x7_2).f3)) ∧ w'.cell? ⟨(ad116.add ((x7_2).toNat * 5)).block, (ad116.add ((x7_2).toNat * 5)).off + 4, none⟩ = some (.int .i64 ((rd_T26 l0 x7_2).f4)) ∧ w'.cell? (ad117.add ((x7_2).toNat * 5)) = some (.int .i64 ((rd_T26 l1 x7_2).f0)) ∧ w'.cell? ⟨(ad117.add ((x7_2).toNat * 5)).block, (ad117.add ((x7_2).toNat * 5)).off + 1, none⟩ = some (.int .i64 ((rd_T26 l1 x7_2).f1)) ∧ w'.cell? ⟨(ad117.add ((x7_2).toNat * 5)).block, (ad117.add ((x7_2).toNat * 5)).off + 2, none⟩ = some (.int .i64 ((rd_T26 l1 x7_2).f2)) ∧ w'.cell? ⟨(ad117.add ((x7_2).toNat * 5)).block, (ad117.add ((x7_2).toNat * 5)).off + 3, none⟩ = some (.int .i64 ((rd_T26 l1 x7_2).f3)) ∧ w'.cell? ⟨(ad117.add ((x7_2).toNat * 5)).block, (ad117.add ((x7_2).toNat * 5)).off + 4, none⟩ = some (.int .i64 ((rd_T26 l1 x7_2).f4))) (ds := []) spec_DiffLegs.tab8 spec_DiffLegs.bits8 #[false, false, false, false, false, false, false, false, false, false, false, false, false, false] ⟨(bX HB hw118_0), (bX HB hw118_1), (bX HB hw118_2), (bX HB hw118_3), (bX HB hw118_4), (bX HB hw119_0), (bX HB hw119_1), (bX HB hw119_2), (bX HB hw119_3), (bX HB hw119_4)⟩ fun hHeld HT_ HW_ => ?_
              generalize w21.drew = w22 at HO_6 HB hx118_0 hx118_1 hx118_2 hx118_3 hx118_4 hx119_0 hx119_1 hx119_2 hx119_3 hx119_4 hHeld ⊢
              refine pA 0 41 HT_ ?_
              refine pA 1 42 HT_ ?_
              refine pA 2 43 HT_ ?_
              refine pA 3 44 HT_ ?_
              refine pA 4 45 HT_ ?_
              refine pA 6 47 HT_ ?_
              refine pA 7 48 HT_ ?_
              refine pA 8 49 HT_ ?_
              refine tA 5 46 HT_ HW_ hHeld ?_
              refine tA 9 50 HT_ HW_ hHeld ?_
              refine pA 10 51 HT_ ?_
              refine oA 11 (some 52) HT_ fun K hK => ?_
              refine value_ (w1 := ?_) (v := ?_) (by rfl) rfl ?_ ?_
              rotate_left 2
              ·go_simp
               constructor
               ·rfl
               ·rfl
              refine hK.out _ _ ⟨(World.cell?_alloc_lt _ _ _ (World.block_lt_of_cell? _ _ ((bX HB hw118_0)))).trans ((bX HB hw118_0)), (World.cell?_alloc_lt _ _ _ (World.block_lt_of_cell? _ _ ((bX HB hw118_1)))).trans ((bX HB hw118_1)), (World.cell?_alloc_lt _ _ _ (World.block_lt_of_cell? _ _ ((bX HB hw118_2)))).trans ((bX HB hw118_2)), (World.cell?_alloc_lt _ _ _ (World.block_lt_of_cell? _ _ ((bX HB hw118_3)))).trans ((bX HB hw118_3)), (World.cell?_alloc_lt _ _ _ (World.block_lt_of_cell? _ _ ((bX HB hw118_4)))).trans ((bX HB hw118_4)), (World.cell?_alloc_lt _ _ _ (World.block_lt_of_cell? _ _ ((bX HB hw119_0)))).trans ((bX HB hw119_0)), (World.cell?_alloc_lt _ _ _ (World.block_lt_of_cell? _ _ ((bX HB hw119_1)))).trans ((bX HB hw119_1)), (World.cell?_alloc_lt _ _ _ (World.block_lt_of_cell? _ _ ((bX HB hw119_2)))).trans ((bX HB hw119_2)), (World.cell?_alloc_lt _ _ _ (World.block_lt_of_cell? _ _ ((bX HB hw119_3)))).trans ((bX HB hw119_3)), (World.cell?_alloc_lt _ _ _ (World.block_lt_of_cell? _ _ ((bX HB hw119_4)))).trans ((bX HB hw119_4))⟩ (fun hHeld => ?_)
              clear hK K
              refine nA ?_ (some 52)
              refine oA 12 (some 53) HT_ fun K hK => ?_
              refine Kd.R_append_step k28 (w0 := w) w.heap.size (by rfl) (.tmp 41) (.tmp 52) 36 28 (.agg #[(.int .i64 0), (.int .i64 0), (.int .i64 0), (.int .i64 0), (.int .i64 0), (.int .i64 0), (.int .i64 0), (.int .i64 0), (.int .i64 0), (.int .i64 0), (.int .i64 0), (.int .i64 0)]) 96 rfl Try.underlying36 info28 rfl (by decide) (by omega) u6 x6_2 (⟨3, x7_2, (⟨(rd_T26 l0 x7_2).f0, (rd_T26 l0 x7_2).f1, (rd_T26 l0 x7_2).f2, (rd_T26 l0 x7_2).f3, (rd_T26 l0 x7_2).f4⟩ : S26), (⟨(rd_T26 l1 x7_2).f0, (rd_T26 l1 x7_2).f1, (rd_T26 l1 x7_2).f2, (rd_T26 l1 x7_2).f3, (rd_T26 l1 x7_2).f4⟩ : S26)⟩ : S28) [.int .i64 3, .int .i64 x7_2, .int .i64 ((rd_T26 l0 x7_2).f0), .int .i64 ((rd_T26 l0 x7_2).f1), .int .i64 ((rd_T26 l0 x7_2).f2), .int .i64 ((rd_T26 l0 x7_2).f3), .int .i64 ((rd_T26 l0 x7_2).f4), .int .i64 ((rd_T26 l1 x7_2).f0), .int .i64 ((rd_T26 l1 x7_2).f1), .int .i64 ((rd_T26 l1 x7_2).f2), .int .i64 ((rd_T26 l1 x7_2).f3), .int .i64 ((rd_T26 l1 x7_2).f4)] (fun _ => True) (fun _ => False) rfl rfl ?aP (fun _ hk => hk.elim) ?aF ?aO ?aB ?aS ?aL ?_
              (case aP => exact k28_mkM _ _ _ (⟨3, x7_2, (⟨(rd_T26 l0 x7_2).f0, (rd_T26 l0 x7_2).f1, (rd_T26 l0 x7_2).f2, (rd_T26 l0 x7_2).f3, (rd_T26 l0 x7_2).f4⟩ : S26), (⟨(rd_T26 l1 x7_2).f0, (rd_T26 l1 x7_2).f1, (rd_T26 l1 x7_2).f2, (rd_T26 l1 x7_2).f3, (rd_T26 l1 x7_2).f4⟩ : S26)⟩ : S28))
              (case aB => exact (bW HB))
              (case aF => exact (fun _ _ => trivial))
              (case aO => exact (upR HO_6.out))
              (case aS => exact (below_size (bW HB)))
              (case aL => have := LMc20.out; omega)
              intro v121 w23 ho hb hg hat
              rw [← Ny120.out] at ho
              have HO122 := Aside0.mk (ho)
              replace HB := Aside0.mk (hb)
              clear HO_6
              clear ho hb hg hat
              refine hK.out _ _ ⟨(bX HB hw118_0), (bX HB hw118_1), (bX HB hw118_2), (bX HB hw118_3), (bX HB hw118_4), (bX HB hw119_0), (bX HB hw119_1), (bX HB hw119_2), (bX HB hw119_3), (bX HB hw119_4)⟩ (fun hHeld => ?_)
              clear hK K
              refine nA ?_ (some 53)
              refine pA 13 6 HT_ ?_
              refine done_ (done_of HT_.out (by kernel_rfl)) ?_
              try go_wp2
              go_roundg kj12
              case measure => have := HJ2.out; have := HK2.out; have := HJ12.out; omega
              case rel => exact ⟨(y120), (wrap64 (x7_2 + 1)), rB, H', ⟨by have := HJ2.out; have := HK2.out; have := HJ12.out; omega⟩, ⟨upR HO122.out⟩, (aB HB)⟩
             ·rw [if_neg c20] at H
              exact absurd H (by simp)
            ·rw [if_neg c19] at H
             have c19b0 : (!(((rd_T26 l0 x7_2).f0) == ((rd_T26 l1 x7_2).f0)) || (!(((rd_T26 l0 x7_2).f1) == ((rd_T26 l1 x7_2).f1)) || (!(((rd_T26 l0 x7_2).f2) == ((rd_T26 l1 x7_2).f2)) || (!(((rd_T26 l0 x7_2).f3) == ((rd_T26 l1 x7_2).f3)) || (!(((rd_T26 l0 x7_2).f4) == ((rd_T26 l1 x7_2).f4))))))) = false := by simpa using c19
             clear c19
             have H' := Aside0.mk H
             clear H
             try go_wp2
             replace HO_6 := Aside0.mk (Kd.R_drew HO_6.out)
             replace HB := Aside0.mk (below_drew1 HB.out)
             have p116 : 0 ≤ (x7_2 : Int) := of_decide_eq_true asmB
             have q116 : x7_2 < (l0.length : Int) := of_decide_eq_true asmB
             obtain ⟨ad116, e116, hx116_0, hx116_1, hx116_2, hx116_3, hx116_4⟩ := at_T26 HR0.out x7_2 p116 q116
             have hw116_4 := hx116_4
             have hw116_3 := hx116_3
             have hw116_2 := hx116_2
             have hw116_1 := hx116_1
             have hw116_0 := hx116_0
             cases e116
             replace hx116_0 := bx HB.out hx116_0
             replace hx116_1 := bx HB.out hx116_1
             replace hx116_2 := bx HB.out hx116_2
             replace hx116_3 := bx HB.out hx116_3
             replace hx116_4 := bx HB.out hx116_4
             replace p116 := eq_true p116
             replace q116 := eq_true q116
             have p117 : 0 ≤ (x7_2 : Int) := of_decide_eq_true asmB
             have q117 : x7_2 < (l1.length : Int) := of_decide_eq_true asmB
             obtain ⟨ad117, e117, hx117_0, hx117_1, hx117_2, hx117_3, hx117_4⟩ := at_T26 HR1.out x7_2 p117 q117
             have hw117_4 := hx117_4
             have hw117_3 := hx117_3
             have hw117_2 := hx117_2
             have hw117_1 := hx117_1
             have hw117_0 := hx117_0
             cases e117
             replace hx117_0 := bx HB.out hx117_0
             replace hx117_1 := bx HB.out hx117_1
             replace hx117_2 := bx HB.out hx117_2
             replace hx117_3 := bx HB.out hx117_3
             replace hx117_4 := bx HB.out hx117_4
             replace p117 := eq_true p117
             replace q117 := eq_true q117
             refine sA (n := 9) (S := fun w' => w'.cell? (ad116.add ((x7_2).toNat * 5)) = some (.int .i64 ((rd_T26 l0 x7_2).f0)) ∧ w'.cell? ⟨(ad116.add ((x7_2).toNat * 5)).block, (ad116.add ((x7_2).toNat * 5)).off + 1, none⟩ = some (.int .i64 ((rd_T26 l0 x7_2).f1)) ∧ w'.cell? ⟨(ad116.add ((x7_2).toNat * 5)).block, (ad116.add ((x7_2).toNat * 5)).off + 2, none⟩ = some (.int .i64 ((rd_T26 l0 x7_2).f2)) ∧ w'.cell? ⟨(ad116.add ((x7_2).toNat * 5)).block, (ad116.add ((x7_2).toNat * 5)).off + 3, none⟩ = some (.int .i64 ((rd_T26 l0 x7_2).f3)) ∧ w'.cell? ⟨(ad116.add ((x7_2).toNat * 5)).block, (ad116.add ((x7_2).toNat * 5)).off + 4, none⟩ = some (.int .i64 ((rd_T26 l0 x7_2).f4)) ∧ w'.cell? (ad117.add ((x7_2).toNat * 5)) = some (.int .i64 ((rd_T26 l1 x7_2).f0)) ∧ w'.cell? ⟨(ad117.add ((x7_2).toNat * 5)).block, (ad117.add ((x7_2).toNat * 5)).off + 1, none⟩ = some (.int .i64 ((rd_T26 l1 x7_2).f1)) ∧ w'.cell? ⟨(ad117.add ((x7_2).toNat * 5)).block, (ad117.add ((x7_2).toNat * 5)).off + 2, none⟩ = some (.int .i64 ((rd_T26 l1 x7_2).f2)) ∧ w'.cell? ⟨(ad117.add ((x7_2).toNat * 5)).block, (ad117.add ((x7_2).toNat * 5)).off + 3, none⟩ = some (.int .i64 ((rd_T26 l1 x7_2).f3)) ∧ w'.cell? ⟨(ad117.add ((x7_2).toNat * 5)).block, (ad117.add ((x7_2).toNat * 5)).off + 4, none⟩ = some (.int .i64 ((rd_T26 l1 x7_2).f4))) (ds := []) spec_DiffLegs.tab7 spec_DiffLegs.bits7 #[false, false, false, false, false, false, false, false, false] ⟨(bX HB hw116_0), (bX HB hw116_1), (bX HB hw116_2), (bX HB hw116_3), (bX HB hw116_4), (bX HB hw117_0), (bX HB hw117_1), (bX HB hw117_2), (bX HB hw117_3), (bX HB hw117_4)⟩ fun hHeld HT_ HW_ => ?_
             generalize wc.drew = w24 at HO_6 HB hx116_0 hx116_1 hx116_2 hx116_3 hx116_4 hx117_0 hx117_1 hx117_2 hx117_3 hx117_4 hHeld ⊢
             refine pA 0 32 HT_ ?_
             refine pA 1 33 HT_ ?_
             refine pA 2 34 HT_ ?_
             refine pA 4 36 HT_ ?_
             refine pA 5 37 HT_ ?_
             refine pA 6 38 HT_ ?_
             refine tA 3 35 HT_ HW_ hHeld ?_
             refine tA 7 39 HT_ HW_ hHeld ?_
             refine pA 8 40 HT_ ?_
             refine done_ (done_of HT_.out (by kernel_rfl)) ?_
             try go_wp2
             go_roundg kj12
             case measure => have := HJ2.out; have := HK2.out; have := HJ12.out; omega
             case rel => exact ⟨(x6_2), (wrap64 (x7_2 + 1)), rB, H', ⟨by have := HJ2.out; have := HK2.out; have := HJ12.out; omega⟩, ⟨upR HO_6.out⟩, (aB HB)⟩
           ·rw [if_neg c18] at H
            exact absurd H (by simp)
          ·rw [if_neg c17] at H
           exact absurd H (by simp)
         ·rw [if_neg c16] at H
          exact absurd H (by simp)
        ·replace H := iF (by decide) H
         have H' := Aside0.mk H
         clear H
         go_wp2
         go_loopg [6, 8] kj12 (fun kq v6 v8 w' => ∃ (x6_4 : List (S28)) (x8_4 : Int), v8 = .int .i64 x8_4 ∧ Aside0 (spec_DiffLegs.l1 kq l0 l1 x6_4 x8_4 = some (r1, r2)) ∧ Aside0 (kq ≤ kj12) ∧ Aside0 (Kd.R k28 28 w' w.heap.size (fun _ => True) v6 x6_4) ∧ Aside0 (Below w.heap.size w w'))
         case atStart => exact ⟨(x6_2), (wrap64 ((l0.length : Int) - 1)), rB, H', ⟨Nat.le_refl _⟩, ⟨upR HO_6.out⟩, (aB HB)⟩
         case round =>
          clear H'
          try clear c1
          obtain ⟨x6_4, x8_4, rfl, HA, HK4, HO_6, HB⟩ := hrel
          cases gk with
          | zero => exact absurd HA.out (by simp [spec_DiffLegs.l1])
          | succ k4 =>
           have H := HA.out
           clear HA
           simp only [spec_DiffLegs.l1] at H
           replace H := ifD H
           rcases H with ⟨H, -, c25b0⟩ | ⟨H, -, c25b0⟩
           ·by_cases c26 : 0 ≤ x8_4
            ·rw [if_pos c26] at H
             have c26b0 : decide (0 ≤ x8_4) = true := decide_eq_true c26
             clear c26
             by_cases c27 : x8_4 < (l0.length : Int)
             ·rw [if_pos c27] at H
              have c27b0 : decide (x8_4 < (l0.length : Int)) = true := decide_eq_true c27
              clear c27
              by_cases c28 : x6_4.length < 1466015503701
              ·rw [if_pos c28] at H
               have LMc28 := Aside0.mk c28
               clear c28
               obtain ⟨y124, hy124⟩ : ∃ y_ : List (S28), y_ = (x6_4 ++ [(⟨2, x8_4, (⟨(rd_T26 l0 x8_4).f0, (rd_T26 l0 x8_4).f1, (rd_T26 l0 x8_4).f2, (rd_T26 l0 x8_4).f3, (rd_T26 l0 x8_4).f4⟩ : S26), (⟨0, 0, 0, 0, 0⟩ : S26)⟩ : S28)]) := ⟨_, rfl⟩
               replace H : (spec_DiffLegs.l1 k4 l0 l1 y124 (wrap64 (x8_4 - 1))) = some (r1, r2) := by first | (rw [hy124]; with_reducible exact H) | (have H2_ := (Option.bind_some _ _).symm.trans H; rw [hy124]; with_reducible exact H2_) | (have H2_ := (Option.bind_some _ _).symm.trans H; with_reducible exact H2_) | with_reducible exact H | (rw [hy124]; exact H) | exact H
               have Ny124 := Aside0.mk hy124
               clear hy124
               have H' := Aside0.mk H
               clear H
               have p123 : 0 ≤ (x8_4 : Int) := of_decide_eq_true asmB
               have q123 : x8_4 < (l0.length : Int) := of_decide_eq_true asmB
               obtain ⟨ad123, e123, hx123_0, hx123_1, hx123_2, hx123_3, hx123_4⟩ := at_T26 HR0.out x8_4 p123 q123
               cases e123
               replace hx123_0 := bx HB.out hx123_0
               replace hx123_1 := bx HB.out hx123_1
               replace hx123_2 := bx HB.out hx123_2
               replace hx123_3 := bx HB.out hx123_3
               replace hx123_4 := bx HB.out hx123_4
               replace p123 := eq_true p123
               replace q123 := eq_true q123
               go_wp2_with (first | ((with_reducible refine gate_builtin (b := .append) (xs := #[.tmp 63, .tmp 70]) rfl ?_); (try (refine gate_guard (by rfl) ?_; dsimp only)); at_builtin; refine Kd.R_append k28 (w0 := w) w.heap.size rfl (.tmp 63) (.tmp 70) 36 28 (.agg #[(.int .i64 0), (.int .i64 0), (.int .i64 0), (.int .i64 0), (.int .i64 0), (.int .i64 0), (.int .i64 0), (.int .i64 0), (.int .i64 0), (.int .i64 0), (.int .i64 0), (.int .i64 0)]) 96 rfl Try.underlying36 info28 rfl (by decide) (by omega) u6 x6_4 (⟨2, x8_4, (⟨(rd_T26 l0 x8_4).f0, (rd_T26 l0 x8_4).f1, (rd_T26 l0 x8_4).f2, (rd_T26 l0 x8_4).f3, (rd_T26 l0 x8_4).f4⟩ : S26), (⟨0, 0, 0, 0, 0⟩ : S26)⟩ : S28) [.int .i64 2, .int .i64 x8_4, .int .i64 ((rd_T26 l0 x8_4).f0), .int .i64 ((rd_T26 l0 x8_4).f1), .int .i64 ((rd_T26 l0 x8_4).f2), .int .i64 ((rd_T26 l0 x8_4).f3), .int .i64 ((rd_T26 l0 x8_4).f4), .int .i64 0, .int .i64 0, .int .i64 0, .int .i64 0, .int .i64 0] (fun _ => True) (fun _ => False) rfl rfl ?aP (fun _ hk => hk.elim) ?aF ?aO ?aB ?aS ?aL ?_; (case aP => exact k28_mkM _ _ _ (⟨2, x8_4, (⟨(rd_T26 l0 x8_4).f0, (rd_T26 l0 x8_4).f1, (rd_T26 l0 x8_4).f2, (rd_T26 l0 x8_4).f3, (rd_T26 l0 x8_4).f4⟩ : S26), (⟨0, 0, 0, 0, 0⟩ : S26)⟩ : S28)); (case aB => exact (bW HB)); (case aF => exact (fun _ _ => trivial)); (case aO => exact (upR HO_6.out)); (case aS => exact (below_size (bW HB))); (case aL => have := LMc28.out; omega); intro v125 w29 ho hb hg hat; rw [← Ny124.out] at ho; have HO126 := Aside0.mk (ho); replace HB := Aside0.mk (hb); clear HO_6; clear ho hb hg hat))
               go_roundg k4
               case measure => have := HJ2.out; have := HK2.out; have := HJ12.out; have := HK4.out; omega
               case rel => exact ⟨(y124), (wrap64 (x8_4 - 1)), rB, H', ⟨by have := HJ2.out; have := HK2.out; have := HJ12.out; have := HK4.out; omega⟩, ⟨upR HO126.out⟩, (aB HB)⟩
              ·rw [if_neg c28] at H
               exact absurd H (by simp)
             ·rw [if_neg c27] at H
              exact absurd H (by simp)
            ·rw [if_neg c26] at H
             exact absurd H (by simp)
           ·have H' := Aside0.mk H
            clear H
            go_wp2
            go_loopg [6, 9] k4 (fun kq v6 v9 w' => ∃ (x6_5 : List (S28)) (x9_5 : Int), v9 = .int .i64 x9_5 ∧ Aside0 (spec_DiffLegs.l2 kq l1 x6_5 x9_5 = some (r1, r2)) ∧ Aside0 (kq ≤ k4) ∧ Aside0 (Kd.R k28 28 w' w.heap.size (fun _ => True) v6 x6_5) ∧ Aside0 (Below w.heap.size w w'))
            case atStart => exact ⟨(x6_4), ((l0.length : Int)), rB, H', ⟨Nat.le_refl _⟩, ⟨upR HO_6.out⟩, (aB HB)⟩
            case round =>
             clear H'
             try clear c1
             try clear c25b0
             obtain ⟨x6_5, x9_5, rfl, HA, HK5, HO_6, HB⟩ := hrel
             cases gk with
             | zero => exact absurd HA.out (by simp [spec_DiffLegs.l2])
             | succ k5 =>
              have H := HA.out
              clear HA
              simp only [spec_DiffLegs.l2] at H
              replace H := ifD H
              rcases H with ⟨H, -, c30b0⟩ | ⟨H, -, c30b0⟩
              ·by_cases c31 : 0 ≤ x9_5
               ·rw [if_pos c31] at H
                have c31b0 : decide (0 ≤ x9_5) = true := decide_eq_true c31
                clear c31
                by_cases c32 : x6_5.length < 1466015503701
                ·rw [if_pos c32] at H
                 have LMc32 := Aside0.mk c32
                 clear c32
                 obtain ⟨y128, hy128⟩ : ∃ y_ : List (S28), y_ = (x6_5 ++ [(⟨1, x9_5, (⟨0, 0, 0, 0, 0⟩ : S26), (⟨(rd_T26 l1 x9_5).f0, (rd_T26 l1 x9_5).f1, (rd_T26 l1 x9_5).f2, (rd_T26 l1 x9_5).f3, (rd_T26 l1 x9_5).f4⟩ : S26)⟩ : S28)]) := ⟨_, rfl⟩
                 replace H : (spec_DiffLegs.l2 k5 l1 y128 (wrap64 (x9_5 + 1))) = some (r1, r2) := by first | (rw [hy128]; with_reducible exact H) | (have H2_ := (Option.bind_some _ _).symm.trans H; rw [hy128]; with_reducible exact H2_) | (have H2_ := (Option.bind_some _ _).symm.trans H; with_reducible exact H2_) | with_reducible exact H | (rw [hy128]; exact H) | exact H
                 have Ny128 := Aside0.mk hy128
                 clear hy128
                 have H' := Aside0.mk H
                 clear H
                 have p127 : 0 ≤ (x9_5 : Int) := of_decide_eq_true asmB
                 have q127 : x9_5 < (l1.length : Int) := of_decide_eq_true asmB
                 obtain ⟨ad127, e127, hx127_0, hx127_1, hx127_2, hx127_3, hx127_4⟩ := at_T26 HR1.out x9_5 p127 q127
                 cases e127
                 replace hx127_0 := bx HB.out hx127_0
                 replace hx127_1 := bx HB.out hx127_1
                 replace hx127_2 := bx HB.out hx127_2
                 replace hx127_3 := bx HB.out hx127_3
                 replace hx127_4 := bx HB.out hx127_4
                 replace p127 := eq_true p127
                 replace q127 := eq_true q127
                 go_wp2_with (first | ((with_reducible refine gate_builtin (b := .append) (xs := #[.tmp 80, .tmp 87]) rfl ?_); (try (refine gate_guard (by rfl) ?_; dsimp only)); at_builtin; refine Kd.R_append k28 (w0 := w) w.heap.size rfl (.tmp 80) (.tmp 87) 36 28 (.agg #[(.int .i64 0), (.int .i64 0), (.int .i64 0), (.int .i64 0), (.int .i64 0), (.int .i64 0), (.int .i64 0), (.int .i64 0), (.int .i64 0), (.int .i64 0), (.int .i64 0), (.int .i64 0)]) 96 rfl Try.underlying36 info28 rfl (by decide) (by omega) u6 x6_5 (⟨1, x9_5, (⟨0, 0, 0, 0, 0⟩ : S26), (⟨(rd_T26 l1 x9_5).f0, (rd_T26 l1 x9_5).f1, (rd_T26 l1 x9_5).f2, (rd_T26 l1 x9_5).f3, (rd_T26 l1 x9_5).f4⟩ : S26)⟩ : S28) [.int .i64 1, .int .i64 x9_5, .int .i64 0, .int .i64 0, .int .i64 0, .int .i64 0, .int .i64 0, .int .i64 ((rd_T26 l1 x9_5).f0), .int .i64 ((rd_T26 l1 x9_5).f1), .int .i64 ((rd_T26 l1 x9_5).f2), .int .i64 ((rd_T26 l1 x9_5).f3), .int .i64 ((rd_T26 l1 x9_5).f4)] (fun _ => True) (fun _ => False) rfl rfl ?aP (fun _ hk => hk.elim) ?aF ?aO ?aB ?aS ?aL ?_; (case aP => exact k28_mkM _ _ _ (⟨1, x9_5, (⟨0, 0, 0, 0, 0⟩ : S26), (⟨(rd_T26 l1 x9_5).f0, (rd_T26 l1 x9_5).f1, (rd_T26 l1 x9_5).f2, (rd_T26 l1 x9_5).f3, (rd_T26 l1 x9_5).f4⟩ : S26)⟩ : S28)); (case aB => exact (bW HB)); (case aF => exact (fun _ _ => trivial)); (case aO => exact (upR HO_6.out)); (case aS => exact (below_size (bW HB))); (case aL => have := LMc32.out; omega); intro v129 w33 ho hb hg hat; rw [← Ny128.out] at ho; have HO130 := Aside0.mk (ho); replace HB := Aside0.mk (hb); clear HO_6; clear ho hb hg hat))
                 go_roundg k5
                 case measure => have := HJ2.out; have := HK2.out; have := HJ12.out; have := HK4.out; have := HK5.out; omega
                 case rel => exact ⟨(y128), (wrap64 (x9_5 + 1)), rB, H', ⟨by have := HJ2.out; have := HK2.out; have := HJ12.out; have := HK4.out; have := HK5.out; omega⟩, ⟨upR HO130.out⟩, (aB HB)⟩
                ·rw [if_neg c32] at H
                 exact absurd H (by simp)
               ·rw [if_neg c31] at H
                exact absurd H (by simp)
              ·replace H := ifD H
               rcases H with ⟨H, c34, c34b0⟩ | ⟨H, c34, c34b0⟩
               ·have c34b1 : decide (10 < x6_5.length) = true := decide_eq_true (by omega)
                clear c34
                obtain ⟨y131, hy131⟩ : ∃ y_ : List (S28), y_ = (([] : List (S28))) := ⟨_, rfl⟩
                replace H : (some (y131, false)) = some (r1, r2) := by first | (rw [hy131]; with_reducible exact H) | (have H2_ := (Option.bind_some _ _).symm.trans H; rw [hy131]; with_reducible exact H2_) | (have H2_ := (Option.bind_some _ _).symm.trans H; with_reducible exact H2_) | with_reducible exact H | (rw [hy131]; exact H) | exact H
                have Ny131 := Aside0.mk hy131
                clear hy131
                simp only [Option.some.injEq, Prod.mk.injEq] at H
                obtain ⟨rfl, rfl⟩ := H
                obtain ⟨Ao35, co35, eo35⟩ := Kd.R_slice HO_6.out
                subst eo35
                go_wp2_with (first | ((with_reducible refine gate_dst (N := 92) rfl ?_); (try (refine gate_guard (by rfl) ?_; dsimp only)); refine Kd.R_lit k28 _ 28 ?hg (N := 92) ?hd (xs := ([] : List (S28))) (inner := []) (ok := fun _ => True) (okp := fun _ => True) ?hr ?hp (fun _ hk => hk) trivial (Below.refl _ _) (Nat.le_refl _) (by simp) ?_; (case hd => rfl); (case hg => rfl); (case hr => first | (go_simp; done) | (go_simp; rfl)); (case hp => exact (Reps.none _ _)); intro v132 w36 ho37 hb hg_ hnew_; clear hg_ hnew_; (first | rw [← Ny131.out] at ho37 | (simp only [Int.reduceToNat] at ho37; rw [← Ny131.out] at ho37)); have HO133 := Aside0.mk (Kd.R_lower (Kd.R_new' ho37 (Kd.R_lt (upR HO_6.out))) (below_size (bW HB))); replace HO_6 := Aside0.mk (Kd.R_elder' (upR HO_6.out) (Kd.R_base ho37) hb); replace HB := uB HB hb; clear hb ho37))
                go_ret2
                exact ⟨_, eB, by (with_reducible repeat (first | apply Kd.R_alloc | apply Kd.R_drewN | apply Kd.R_drew)); exact Kd.R_mono HO133.out (fun _ hk => trivial), (bW HB)⟩
               ·have c34b1 : decide (10 < x6_5.length) = false := decide_eq_false (by omega)
                clear c34
                simp only [Option.some.injEq, Prod.mk.injEq] at H
                obtain ⟨rfl, rfl⟩ := H
                obtain ⟨Ao38, co38, eo38⟩ := Kd.R_slice HO_6.out
                subst eo38
                go_wp2
                go_ret2
                exact ⟨_, eB, upR HO_6.out, (bW HB)⟩

end Go.Proofs.Ytinelmmnajelaaa.QFnDiffs
