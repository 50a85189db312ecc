/- Contracts of Go functions that FnRenamings reaches: the call computes what the plain function says. No condition. -/
import Derived.Test.YtfaojmabalplfaaQFnRenamingsx0
import Derived.Test.YtfaojmabalplfaaQFnRenamingsx2
import Derived.Test.YtfaojmabalplfaaQFnRenamingsx4
import Derived.Test.YtfaojmabalplfaaQFnRenamingsx7
import Derived.Test.YtfaojmabalplfaaQFnRenamingsx8
namespace Go.Proofs.Ytfaojmabalplfaa.QFnRenamings
open Go.RowKit Go.Proofs.YtfaojmabalplfaaW.PrintWords Go.Proofs.YtfaojmabalplfaaW.PrintLast Go.Proofs.YtfaojmabalplfaaW.PrintMore
attribute [local go_sem] max2_int min2_int max_two min_two max_three min_three max_four min_four   -- for this text's walks alone
set_option linter.unusedVariables false
set_option linter.unusedSimpArgs false

/-! ### impl_ImproveRenaming: function 43 -/
mutual
def impl_ImproveRenaming.j0 : Nat → List (S70) → List (S70) → List Int → Bool → Option (List Int × Int × Bool)
 | 0, _, _, _, _ => none
 | k + 1, x0, x1, x2, x27 => if x27 = true then (some (([] : List Int), 0, false)) else ((slices_Clone_int_int.f x2).bind fun t283 => ((impl_matchScore.f k x0 x1 x2).bind fun t286 => (impl_ImproveRenaming.l0 k x0 x1 x2 t283 t286 (x2.length : Int) 0)))
def impl_ImproveRenaming.l0 : Nat → List (S70) → List (S70) → List Int → List Int → Int → Int → Int → Option (List Int × Int × Bool)
 | 0, _, _, _, _, _, _, _ => none
 | k + 1, x0, x1, x2, x9, x10, x35, x36 => if x36 < x35 then (impl_ImproveRenaming.l1 k x0 x1 x2 x9 x10 x36 (wrap64 (x36 + 1)) x35 x36) else (some (x9, x10, true))
def impl_ImproveRenaming.l1 : Nat → List (S70) → List (S70) → List Int → List Int → Int → Int → Int → Int → Int → Option (List Int × Int × Bool)
 | 0, _, _, _, _, _, _, _, _, _ => none
 | k + 1, x0, x1, x2, x9, x10, x11, x12, x35, x36 => if x12 < (x2.length : Int) then ((slices_Clone_int_int.f x2).bind fun t287 => (if 0 ≤ x12 then (if x12 < (t287.length : Int) then (if 0 ≤ x11 then (if x11 < (t287.length : Int) then ((some ((t287.set (x11 : Int).toNat (rd t287 x12)).set (x12 : Int).toNat (rd t287 x11) : List Int)).bind fun y293 => ((impl_matchScore.f k x0 x1 y293).bind fun t294 => (if t294 > x10 then (impl_ImproveRenaming.l1 k x0 x1 x2 y293 t294 x11 (wrap64 (x12 + 1)) x35 x36) else (impl_ImproveRenaming.l1 k x0 x1 x2 x9 x10 x11 (wrap64 (x12 + 1)) x35 x36)))) else (none)) else (none)) else (none)) else (none))) else (impl_ImproveRenaming.l0 k x0 x1 x2 x9 x10 x35 (wrap64 (x36 + 1)))
end
def impl_ImproveRenaming.f (k : Nat) (l0 : List (S70)) (l1 : List (S70)) (l2 : List Int) : Option (List Int × Int × Bool) := (impl_areLegs.f k l0).bind fun t280 => (if t280 = true then ((impl_areLegs.f k l1).bind fun t281 => (if t281 = true then ((impl_IsRenaming.f k l2).bind fun t282 => (impl_ImproveRenaming.j0 k l0 l1 l2 (!t282))) else (impl_ImproveRenaming.j0 k l0 l1 l2 true))) else (impl_ImproveRenaming.j0 k l0 l1 l2 true))
theorem impl_ImproveRenaming.mono_l : ∀ k, (∀ y0 y1 y2 y3, LeO (impl_ImproveRenaming.j0 k y0 y1 y2 y3) (impl_ImproveRenaming.j0 (k + 1) y0 y1 y2 y3)) ∧ (∀ y0 y1 y2 y3 y4 y5 y6, LeO (impl_ImproveRenaming.l0 k y0 y1 y2 y3 y4 y5 y6) (impl_ImproveRenaming.l0 (k + 1) y0 y1 y2 y3 y4 y5 y6)) ∧ (∀ y0 y1 y2 y3 y4 y5 y6 y7 y8, LeO (impl_ImproveRenaming.l1 k y0 y1 y2 y3 y4 y5 y6 y7 y8) (impl_ImproveRenaming.l1 (k + 1) y0 y1 y2 y3 y4 y5 y6 y7 y8))
 | 0 => ⟨fun _ _ _ _ r h => by simp [impl_ImproveRenaming.j0] at h, fun _ _ _ _ _ _ _ r h => by simp [impl_ImproveRenaming.l0] at h, fun _ _ _ _ _ _ _ _ _ r h => by simp [impl_ImproveRenaming.l1] at h⟩
 | k + 1 => by
  obtain ⟨ih0, ih1, ih2⟩ := impl_ImproveRenaming.mono_l k
  refine ⟨?_, ?_, ?_⟩
  ·intro y0 y1 y2 y3
   unfold impl_ImproveRenaming.j0
   repeat' with_reducible first | apply ih0 | apply ih1 | apply ih2 | apply impl_IsRenaming.mono | apply impl_areLegs.mono | apply impl_matchScore.mono | exact LeO.refl _ | exact LeO.none _ | refine LeO.ite ?_ ?_ | refine LeO.bind ?_ (fun _ => ?_)
  ·intro y0 y1 y2 y3 y4 y5 y6
   unfold impl_ImproveRenaming.l0
   repeat' with_reducible first | apply ih0 | apply ih1 | apply ih2 | apply impl_IsRenaming.mono | apply impl_areLegs.mono | apply impl_matchScore.mono | exact LeO.refl _ | exact LeO.none _ | refine LeO.ite ?_ ?_ | refine LeO.bind ?_ (fun _ => ?_)
  ·intro y0 y1 y2 y3 y4 y5 y6 y7 y8
   unfold impl_ImproveRenaming.l1
   repeat' with_reducible first | apply ih0 | apply ih1 | apply ih2 | apply impl_IsRenaming.mono | apply impl_areLegs.mono | apply impl_matchScore.mono | exact LeO.refl _ | exact LeO.none _ | refine LeO.ite ?_ ?_ | refine LeO.bind ?_ (fun _ => ?_)
theorem impl_ImproveRenaming.mono : ∀ a0 a1 a2 k, LeO (impl_ImproveRenaming.f k a0 a1 a2) (impl_ImproveRenaming.f (k + 1) a0 a1 a2) := by
 intro a0 a1 a2 k
 obtain ⟨ih0, ih1, ih2⟩ := impl_ImproveRenaming.mono_l k
 unfold impl_ImproveRenaming.f
 repeat' with_reducible first | apply ih0 | apply ih1 | apply ih2 | apply impl_IsRenaming.mono | apply impl_areLegs.mono | apply impl_matchScore.mono | exact LeO.refl _ | exact LeO.none _ | refine LeO.ite ?_ ?_ | refine LeO.bind ?_ (fun _ => ?_)
def impl_ImproveRenaming.T11 : Bool × List (List Nat × List Nat) := (true, [([], []), ([], []), ([], []), ([], []), ([], []), ([], []), ([4, 5], [4, 5]), ([6], [6]), ([], []), ([], []), ([8, 9], [8, 9]), ([10], [10]), ([0, 1, 0, 1, 4, 5, 6, 7, 11], [0, 1]), ([12, 7, 0, 1, 4, 5, 6, 7, 11], [7, 12]), ([2, 3, 0, 1, 2, 3, 4, 5, 6, 7, 8, 9, 10, 11, 12, 13], [2, 3]), ([14, 11, 13, 0, 1, 2, 3, 4, 5, 6, 7, 8, 9, 10, 11, 12, 13], [11, 14])])
def impl_ImproveRenaming.B11 : List Nat := [0, 0, 0, 0, 0, 0, 48, 112, 0, 0, 768, 1792, 4083, 8179, 16383, 32767]
theorem impl_ImproveRenaming.tab11 : rtab .any (opsOf Try.f43 11) = impl_ImproveRenaming.T11 := by kernel_rfl
theorem impl_ImproveRenaming.bits11 : waitsOk impl_ImproveRenaming.T11.2 impl_ImproveRenaming.B11 = true := by kernel_rfl
set_option maxHeartbeats 8000000 in
set_option maxRecDepth 100000 in
theorem impl_ImproveRenaming.calls (k : Nat) (A0 : Option Addr) (c0 : Nat) (l0 : List (S70)) (A1 : Option Addr) (c1 : Nat) (l1 : List (S70)) (A2 : Option Addr) (c2 : Nat) (l2 : List Int) (r1 : List Int) (r2 : Int) (r3 : Bool) (w : World) (hr0 : Kd.C k70 w A0 l0.length l0) (hc0 : l0.length ≤ c0) (hr1 : Kd.C k70 w A1 l1.length l1) (hc1 : l1.length ≤ c1) (hr2 : Kd.C (Kd.int .i64) w A2 l2.length l2) (hc2 : l2.length ≤ c2) (h : impl_ImproveRenaming.f k l0 l1 l2 = some (r1, r2, r3)) :
  Calls Try.prog 43 #[.slice A0 l0.length c0, .slice A1 l1.length c1, .slice A2 l2.length c2] w fun e w' => ∃ v0_ : Value, e = .returned (.tuple #[v0_, .int .i64 r2, .bool r3]) ∧ Kd.R (Kd.int .i64) 3 w' w.heap.size (fun _ => True) v0_ r1 ∧ Below w.heap.size w w' := by
 have HR0 := Aside0.mk hr0
 have HC0 := Aside0.mk hc0
 clear hr0 hc0
 have HR1 := Aside0.mk hr1
 have HC1 := Aside0.mk hc1
 clear hr1 hc1
 have HR2 := Aside0.mk hr2
 have HC2 := Aside0.mk hc2
 clear hr2 hc2
 have HB := Aside0.mk (Below.refl w.heap.size w)
 have H := h
 clear h
 unfold impl_ImproveRenaming.f at H
 have HC4 := Aside0.mk H
 clear H
 go_enter Try.func43, Try.ntmps43
 go_upto_region 1 with (fail)
 go_cut [27] (fun v27 wc => ∃ (kq : Nat) (x27_3 : Bool), v27 = .bool x27_3 ∧ Aside0 (impl_ImproveRenaming.j0 kq l0 l1 l2 x27_3 = some (r1, r2, r3)) ∧ Aside0 (kq ≤ k) ∧ Aside0 (Below w.heap.size w wc))
 case first =>
  have H := HC4.out
  clear HC4
  replace H := bA H
  obtain ⟨t280, A5, H⟩ := H
  rcases Bool.eq_false_or_eq_true t280 with rfl | rfl
  ·replace H := iT rfl H
   replace H := bA H
   obtain ⟨t281, A7, H⟩ := H
   rcases Bool.eq_false_or_eq_true t281 with rfl | rfl
   ·replace H := iT rfl H
    replace H := bA H
    obtain ⟨t282, A9, H⟩ := H
    have H' := Aside0.mk H
    clear H
    go_wp2_with (first | ((with_reducible refine gC 62 ?_); refine lA (some 16) Try.func62 (impl_areLegs.calls k _ _ l0 true _ ?side1 ?side2 A5.out) ?_; (case side1 => repeat (first | exact (Kd.C_below HR0.out HB.out) | (with_reducible refine Kd.C_alloc ?_ _) | (with_reducible refine Kd.C_drewN ?_ _) | (with_reducible refine Kd.C_drew ?_))); (case side2 => exact HC0.out); intro w10 hb; replace HB := uB HB hb; (try clear hb); (try clear hk)) | (go_at_call 62; (with_reducible refine (impl_areLegs.calls k _ _ l1 true _ ?side1 ?side2 A7.out).mono ?_); (case side1 => repeat (first | exact (Kd.C_below HR1.out HB.out) | (with_reducible refine Kd.C_alloc ?_ _) | (with_reducible refine Kd.C_drewN ?_ _) | (with_reducible refine Kd.C_drew ?_))); (case side2 => exact HC1.out); rintro e w11 ⟨rfl, hb⟩; replace HB := uB HB hb; (try clear hb); (try clear hk)) | (go_at_call 16; (with_reducible refine (impl_IsRenaming.calls k _ _ l2 t282 _ ?side1 ?side2 A9.out).mono ?_); (case side1 => repeat (first | exact (Kd.C_below HR2.out HB.out) | (with_reducible refine Kd.C_alloc ?_ _) | (with_reducible refine Kd.C_drewN ?_ _) | (with_reducible refine Kd.C_drew ?_))); (case side2 => exact HC2.out); rintro e w' ⟨rfl, ⟨nd, rfl⟩⟩))
    go_meet
    case rel => exact ⟨_, (!t282), rB, H', leB, (aB HB)⟩
   ·replace H := iF (by decide) H
    have H' := Aside0.mk H
    clear H
    go_wp2_with (first | ((with_reducible refine gC 62 ?_); refine lA (some 16) Try.func62 (impl_areLegs.calls k _ _ l0 true _ ?side1 ?side2 A5.out) ?_; (case side1 => repeat (first | exact (Kd.C_below HR0.out HB.out) | (with_reducible refine Kd.C_alloc ?_ _) | (with_reducible refine Kd.C_drewN ?_ _) | (with_reducible refine Kd.C_drew ?_))); (case side2 => exact HC0.out); intro w12 hb; replace HB := uB HB hb; (try clear hb); (try clear hk)) | (go_at_call 62; (with_reducible refine (impl_areLegs.calls k _ _ l1 false _ ?side1 ?side2 A7.out).mono ?_); (case side1 => repeat (first | exact (Kd.C_below HR1.out HB.out) | (with_reducible refine Kd.C_alloc ?_ _) | (with_reducible refine Kd.C_drewN ?_ _) | (with_reducible refine Kd.C_drew ?_))); (case side2 => exact HC1.out); rintro e w13 ⟨rfl, hb⟩; replace HB := uB HB hb; (try clear hb); (try clear hk)))
    go_meet
    case rel => exact ⟨_, (true), rB, H', leB, (aB HB)⟩
  ·replace H := iF (by decide) H
   have H' := Aside0.mk H
   clear H
   go_wp2_with (first | ((with_reducible refine gC 62 ?_); refine lA (some 16) Try.func62 (impl_areLegs.calls k _ _ l0 false _ ?side1 ?side2 A5.out) ?_; (case side1 => repeat (first | exact (Kd.C_below HR0.out HB.out) | (with_reducible refine Kd.C_alloc ?_ _) | (with_reducible refine Kd.C_drewN ?_ _) | (with_reducible refine Kd.C_drew ?_))); (case side2 => exact HC0.out); intro w14 hb; replace HB := uB HB hb; (try clear hb); (try clear hk)))
   go_meet
   case rel => exact ⟨_, (true), rB, H', leB, (aB HB)⟩
 case rest =>
  clear HC4
  try clear c1
  try clear c2
  obtain ⟨kq, x27_3, rfl, HA, HJ3, HB⟩ := hcut
  cases kq with
  | zero => exact absurd HA.out (by simp [impl_ImproveRenaming.j0])
  | succ kj3 =>
   have H := HA.out
   clear HA
   simp only [impl_ImproveRenaming.j0] at H
   rcases Bool.eq_false_or_eq_true x27_3 with rfl | rfl
   ·replace H := iT rfl H
    simp only [Option.some.injEq, Prod.mk.injEq] at H
    obtain ⟨rfl, rfl, rfl⟩ := H
    go_wp2
    go_ret3
    exact ⟨_, eB, by first | exact Kd.R_nil _ _ _ _ _ | exact Kd.N_nil _ _ _ _ _ | exact Kd.V_nil _ _ _ _ _ | exact Kd.Q_nil _ _ _ _ _ | exact Kd.S_nil _ _ _ _ _, (bW HB)⟩
   ·replace H := iF (by decide) H
    replace H := bA H
    obtain ⟨t283, A16, H⟩ := H
    replace H := bA H
    obtain ⟨t286, A17, H⟩ := H
    have H' := Aside0.mk H
    clear H
    go_wp2_with (first | ((with_reducible refine gate_callee (f := 79) rfl ?_); refine goesL_ (some 29) rfl rfl Try.func79 (by kernel_rfl) rfl #[.slice A2 l2.length c2] rfl argsB ?_; (with_reducible refine (slices_Clone_int_int.calls _ _ l2 t283 _ ?side1 ?side2 A16.out).mono ?_); (case side1 => repeat (first | exact (Kd.C_below HR2.out HB.out) | (with_reducible refine Kd.C_alloc ?_ _) | (with_reducible refine Kd.C_drewN ?_ _) | (with_reducible refine Kd.C_drew ?_))); (case side2 => exact HC2.out); rintro e w18 ⟨v284, rfl, ho0, hb⟩; refine ⟨_, rfl, ?_⟩; have HO285 := Aside0.mk (Kd.R_lower ho0 (below_size (bW HB))); replace HB := uB HB hb; (try clear hb); (try clear hk); (try clear ho0)) | ((with_reducible refine gC 77 ?_); refine lA (some 33) Try.func77 (impl_matchScore.calls kj3 _ _ l0 _ _ l1 _ _ l2 t286 _ ?side1 ?side2 ?side3 ?side4 ?side5 ?side6 A17.out) ?_; (case side1 => repeat (first | exact (Kd.C_below HR0.out HB.out) | (with_reducible refine Kd.C_alloc ?_ _) | (with_reducible refine Kd.C_drewN ?_ _) | (with_reducible refine Kd.C_drew ?_))); (case side2 => exact HC0.out); (case side3 => repeat (first | exact (Kd.C_below HR1.out HB.out) | (with_reducible refine Kd.C_alloc ?_ _) | (with_reducible refine Kd.C_drewN ?_ _) | (with_reducible refine Kd.C_drew ?_))); (case side4 => exact HC1.out); (case side5 => repeat (first | exact (Kd.C_below HR2.out HB.out) | (with_reducible refine Kd.C_alloc ?_ _) | (with_reducible refine Kd.C_drewN ?_ _) | (with_reducible refine Kd.C_drew ?_))); (case side6 => exact HC2.out); intro w19 hb; replace HO285 := uR HO285 hb; replace HB := uB HB hb; (try clear hb); (try clear hk)))
    (try simp only [Act.put, List.setIfInBounds_toArray, List.set_cons_zero, List.set_cons_succ])
    go_loopg [9, 10, 36] kj3 (fun kq v9 v10 v36 w' => ∃ (x9_2 : List Int) (x10_2 x36_2 : Int), v10 = .int .i64 x10_2 ∧ v36 = .int .i64 x36_2 ∧ Aside0 (impl_ImproveRenaming.l0 kq l0 l1 l2 x9_2 x10_2 (l2.length : Int) x36_2 = some (r1, r2, r3)) ∧ Aside0 (kq ≤ kj3) ∧ Aside0 (Kd.R (Kd.int .i64) 3 w' w.heap.size (fun _ => True) v9 x9_2) ∧ Aside0 (Below w.heap.size w w'))
    case atStart => exact ⟨(t283), (t286), (0), rB, rB, H', ⟨Nat.le_refl _⟩, ⟨upR HO285.out⟩, (aB HB)⟩
    case round =>
     clear H'
     try clear c1
     try clear c2
     obtain ⟨x9_2, x10_2, x36_2, rfl, rfl, HA, HK2, HO_9, HB⟩ := hrel
     cases gk with
     | zero => exact absurd HA.out (by simp [impl_ImproveRenaming.l0])
     | succ k2 =>
      have H := HA.out
      clear HA
      simp only [impl_ImproveRenaming.l0] at H
      replace H := ifD H
      rcases H with ⟨H, -, c20b0⟩ | ⟨H, -, c20b0⟩
      ·have H' := Aside0.mk H
       clear H
       go_wp2
       go_loopg [9, 10, 12] k2 (fun kq v9 v10 v12 w' => ∃ (x9_3 : List Int) (x10_3 x12_3 : Int), v10 = .int .i64 x10_3 ∧ v12 = .int .i64 x12_3 ∧ Aside0 (impl_ImproveRenaming.l1 kq l0 l1 l2 x9_3 x10_3 x36_2 x12_3 (l2.length : Int) x36_2 = some (r1, r2, r3)) ∧ Aside0 (kq ≤ k2) ∧ Aside0 (Kd.R (Kd.int .i64) 3 w' w.heap.size (fun _ => True) v9 x9_3) ∧ Aside0 (Below w.heap.size w w'))
       case atStart => exact ⟨(x9_2), (x10_2), (wrap64 (x36_2 + 1)), rB, rB, H', ⟨Nat.le_refl _⟩, ⟨upR HO_9.out⟩, (aB HB)⟩
       case round =>
        clear H'
        try clear c1
        try clear c2
        try clear c20b0
        obtain ⟨x9_3, x10_3, x12_3, rfl, rfl, HA, HK3, HO_9, HB⟩ := hrel
        cases gk with
        | zero => exact absurd HA.out (by simp [impl_ImproveRenaming.l1])
        | succ k3 =>
         have H := HA.out
         clear HA
         simp only [impl_ImproveRenaming.l1] at H
         replace H := ifD H
         rcases H with ⟨H, -, c21b0⟩ | ⟨H, -, c21b0⟩
         ·replace H := bA H
          obtain ⟨t287, A22, H⟩ := H
          by_cases c23 : 0 ≤ x12_3
          ·rw [if_pos c23] at H
           have c23b0 : decide (0 ≤ x12_3) = true := decide_eq_true c23
           clear c23
           by_cases c24 : x12_3 < (t287.length : Int)
           ·rw [if_pos c24] at H
            have c24b0 : decide (x12_3 < (t287.length : Int)) = true := decide_eq_true c24
            clear c24
            by_cases c25 : 0 ≤ x36_2
            ·rw [if_pos c25] at H
             have c25b0 : decide (0 ≤ x36_2) = true := decide_eq_true c25
             clear c25
             by_cases c26 : x36_2 < (t287.length : Int)
             ·rw [if_pos c26] at H
              have c26b0 : decide (x36_2 < (t287.length : Int)) = true := decide_eq_true c26
              clear c26
              obtain ⟨y292, hy292⟩ : ∃ y_ : List Int, y_ = (t287.set (x36_2 : Int).toNat (rd t287 x12_3)) := ⟨_, rfl⟩
              replace H : ((some (y292.set (x12_3 : Int).toNat (rd t287 x36_2) : List Int)).bind fun y293 => ((impl_matchScore.f k3 l0 l1 y293).bind fun t294 => (if t294 > x10_3 then (impl_ImproveRenaming.l1 k3 l0 l1 l2 y293 t294 x36_2 (wrap64 (x12_3 + 1)) (l2.length : Int) x36_2) else (impl_ImproveRenaming.l1 k3 l0 l1 l2 x9_3 x10_3 x36_2 (wrap64 (x12_3 + 1)) (l2.length : Int) x36_2)))) = some (r1, r2, r3) := by first | (rw [hy292]; with_reducible exact H) | (have H2_ := (Option.bind_some _ _).symm.trans H; rw [hy292]; with_reducible exact H2_) | (have H2_ := (Option.bind_some _ _).symm.trans H; with_reducible exact H2_) | with_reducible exact H | (rw [hy292]; exact H) | exact H
              have Ny292 := Aside0.mk hy292
              clear hy292
              obtain ⟨y293, hy293⟩ : ∃ y_ : List Int, y_ = (y292.set (x12_3 : Int).toNat (rd t287 x36_2)) := ⟨_, rfl⟩
              replace H : ((impl_matchScore.f k3 l0 l1 y293).bind fun t294 => (if t294 > x10_3 then (impl_ImproveRenaming.l1 k3 l0 l1 l2 y293 t294 x36_2 (wrap64 (x12_3 + 1)) (l2.length : Int) x36_2) else (impl_ImproveRenaming.l1 k3 l0 l1 l2 x9_3 x10_3 x36_2 (wrap64 (x12_3 + 1)) (l2.length : Int) x36_2))) = some (r1, r2, r3) := by first | (rw [hy293]; with_reducible exact H) | (have H2_ := (Option.bind_some _ _).symm.trans H; rw [hy293]; with_reducible exact H2_) | (have H2_ := (Option.bind_some _ _).symm.trans H; with_reducible exact H2_) | with_reducible exact H | (rw [hy293]; exact H) | exact H
              have Ny293 := Aside0.mk hy293
              clear hy293
              replace H := bA H
              obtain ⟨t294, A29, H⟩ := H
              replace H := ifD H
              rcases H with ⟨H, -, c30b0⟩ | ⟨H, -, c30b0⟩
              ·have H' := Aside0.mk H
               clear H
               try go_wp2_with (first | ((with_reducible refine gate_callee (f := 79) rfl ?_); refine goesL_ (some 48) rfl rfl Try.func79 (by kernel_rfl) rfl #[.slice A2 l2.length c2] rfl argsB ?_; (with_reducible refine (slices_Clone_int_int.calls _ _ l2 t287 _ ?side1 ?side2 A22.out).mono ?_); (case side1 => repeat (first | exact (Kd.C_below HR2.out HB.out) | (with_reducible refine Kd.C_alloc ?_ _) | (with_reducible refine Kd.C_drewN ?_ _) | (with_reducible refine Kd.C_drew ?_))); (case side2 => exact HC2.out); rintro e w31 ⟨v288, rfl, ho0, hb⟩; refine ⟨_, rfl, ?_⟩; have HO289 := Aside0.mk (Kd.R_lower (Kd.R_new' ho0 (Kd.R_lt (upR HO_9.out))) (below_size (bW HB))); replace HO_9 := Aside0.mk (Kd.R_elder' (upR HO_9.out) (Kd.R_base ho0) hb); replace HB := uB HB hb; (try clear hb); (try clear hk); (try clear ho0)))
               replace HO_9 := Aside0.mk (Kd.R_drew HO_9.out)
               replace HO289 := Aside0.mk (Kd.R_drew HO289.out)
               replace HB := Aside0.mk (below_drew1 HB.out)
               obtain ⟨Ao33, co33, eo33⟩ := Kd.R_slice HO289.out
               (first | subst eo33 | (injection eo33 with f1_ f2_ f3_; have f4_ := f1_.symm; have f5_ := f3_.symm; clear f1_ f2_ f3_; subst f4_; subst f5_))
               have p290 : 0 ≤ (x12_3 : Int) := of_decide_eq_true asmB
               have q290 : x12_3 < (t287.length : Int) := of_decide_eq_true asmB
               obtain ⟨ad290, e290, hx290_0⟩ := Kd.at_int (Kd.R_reads' HO289.out).2.2 x12_3 p290 q290
               cases e290
               replace p290 := eq_true p290
               replace q290 := eq_true q290
               have p291 : 0 ≤ (x36_2 : Int) := of_decide_eq_true asmB
               have q291 : x36_2 < (t287.length : Int) := of_decide_eq_true asmB
               obtain ⟨ad291, e291, hx291_0⟩ := Kd.at_int (Kd.R_reads' HO289.out).2.2 x36_2 p291 q291
               obtain rfl : ad290 = ad291 := (by injection e291)
               replace p291 := eq_true p291
               replace q291 := eq_true q291
               have p27 : 0 ≤ (x36_2 : Int) := of_decide_eq_true asmB
               have q27 : (x36_2 : Int) < ((t287.length : Int) : Int) := of_decide_eq_true asmB
               obtain ⟨go27, co27, eo27, gb27, gl27, cl27, HG27⟩ := Kd.R_form HO289.out (by omega)
               (first | cases eo27 | (injection eo27 with ea_ en_ ec_; (first | subst ea_ | (injection ea_ with ea_; subst ea_)); subst ec_; clear en_))
               have GB27 := Aside0.mk gb27
               have GG27 := Aside0.mk HG27
               clear gb27 gl27 HG27
               (first | simp only [add_plain] at hx290_0 | skip)
               (first | simp only [add_plain] at hx291_0 | skip)
               obtain ⟨hx27_0, hf27_0⟩ := Kd.R_celln 0 HO289.out (x36_2 : Int) p27 q27
               replace p27 := eq_true p27
               replace q27 := eq_true q27
               have HP34 := Kd.R_putn HO289.out (x36_2 : Int) (rd t287 x12_3)
               rw [← Ny292.out] at HP34
               have HQ34 := Aside0.mk HP34
               clear HP34
               have p28 : 0 ≤ (x12_3 : Int) := of_decide_eq_true asmB
               have q28 : (x12_3 : Int) < ((t287.length : Int) : Int) := of_decide_eq_true asmB
               obtain ⟨hx28_0, hf28_0⟩ := Kd.R_celln 0 HQ34.out (x12_3 : Int) p28 q28
               replace p28 := eq_true p28
               replace q28 := eq_true q28
               have HP35 := Kd.R_putn HQ34.out (x12_3 : Int) (rd t287 x36_2)
               rw [← Ny293.out] at HP35
               have HQ35 := Aside0.mk HP35
               clear HP35
               refine sA (n := 16) (S := fun w' => w'.cell? ⟨go27, (x12_3).toNat, none⟩ = some (.int .i64 (rd t287 x12_3)) ∧ w'.cell? ⟨go27, (x36_2).toNat, none⟩ = some (.int .i64 (rd t287 x36_2))) (ds := [13, 15]) impl_ImproveRenaming.tab11 impl_ImproveRenaming.bits11 #[false, false, false, false, false, false, false, false, false, false, false, false, false, false, false, false] ⟨hx290_0, hx291_0⟩ fun hHeld HT_ HW_ => ?_
               generalize w31.drew = w32 at HO_9 HO289 HB GG27 HQ34 HQ35 hf27_0 hf28_0 hx27_0 hx28_0 hx290_0 hx291_0 hHeld ⊢
               refine pA 0 49 HT_ ?_
               refine pA 1 50 HT_ ?_
               refine pA 2 51 HT_ ?_
               refine pA 3 52 HT_ ?_
               refine pA 4 53 HT_ ?_
               refine pA 5 54 HT_ ?_
               refine pA 6 55 HT_ ?_
               refine pA 8 57 HT_ ?_
               refine pA 9 58 HT_ ?_
               refine pA 10 59 HT_ ?_
               refine tA 7 56 HT_ HW_ hHeld ?_
               refine tA 11 60 HT_ HW_ hHeld ?_
               refine pA 12 61 HT_ ?_
               refine last_ (i := 13) (N := none) #[true, true, true, true, true, true, true, true, true, true, true, true, true, true, false, false] rfl rfl (one_of HT_.out (by kernel_rfl)) (by decide) (fun K hK => ?_)
               refine skip_ (w1 := ?_) (by rfl) rfl ?_ ?_
               rotate_left
               ·go_simp
                rfl
               refine hK.out _ _ ?_
               clear hK K
               refine pA 14 62 HT_ ?_
               refine last_ (i := 15) (N := none) #[true, true, true, true, true, true, true, true, true, true, true, true, true, true, true, true] rfl rfl (one_of HT_.out (by kernel_rfl)) (by decide) (fun K hK => ?_)
               refine skip_ (w1 := ?_) (by rfl) rfl ?_ ?_
               rotate_left
               ·go_simp
                rfl
               refine hK.out _ _ ?_
               clear hK K
               refine done_ (done_of HT_.out (by kernel_rfl)) ?_
               try go_wp2_with (first | ((with_reducible refine gate_callee (f := 77) rfl ?_); refine goesL_ (some 66) rfl rfl Try.func77 (by kernel_rfl) rfl #[.slice A0 l0.length c0, .slice A1 l1.length c1, .slice (some ⟨go27, 0, none⟩) y293.length co33] rfl (by (try simp only [List.map_toArray, List.map_cons, List.map_nil]); first | done | (rw [show y293.length = t287.length from (Kd.R_reads' HQ35.out).1.symm] <;> rfl) | rfl | (simp only [List.length_drop, List.length_take]; rfl)) ?_; (with_reducible refine (impl_matchScore.calls k3 _ _ l0 _ _ l1 _ _ y293 t294 _ ?side1 ?side2 ?side3 ?side4 ?side5 ?side6 A29.out).mono ?_); (case side1 => exact Kd.C_below HR0.out (by repeat (first | (with_reducible first | exact HB.out | apply below_alloc | apply pw_below_drewN | apply below_drew1 | refine below_set ?_ GB27.out | refine below_set ?_ GB27.out) | exact HB.out))); (case side2 => exact HC0.out); (case side3 => exact Kd.C_below HR1.out (by repeat (first | (with_reducible first | exact HB.out | apply below_alloc | apply pw_below_drewN | apply below_drew1 | refine below_set ?_ GB27.out | refine below_set ?_ GB27.out) | exact HB.out))); (case side4 => exact HC1.out); (case side5 => refine (Kd.R_reads' (e := 3) (base := w.heap.size) (ok := fun k_ => (True ∧ some k_ ≠ (u9 : Value).ownBlock)) (n := t287.length) (c := co33) ?_).2.2; exact (upR HQ35.out)); (case side6 => rw [show y293.length = t287.length from (Kd.R_reads' HQ35.out).1.symm]; exact (Kd.R_reads' HO289.out).2.1); rintro e w36 ⟨rfl, hb⟩; refine ⟨_, rfl, ?_⟩; replace HO_9 := Aside0.mk (Kd.R_below (by (with_reducible repeat (first | apply Kd.R_alloc | apply Kd.R_drewN | apply Kd.R_drew)); exact (Kd.R_mono (Kd.R_far (p := ⟨go27, (x12_3 : Int).toNat, none⟩) (Kd.R_far (p := ⟨go27, (x36_2 : Int).toNat, none⟩) (Kd.R_mono HO_9.out (fun k_ hk => (⟨hk, fun e_ => hk.2 (by rw [e_]; rfl)⟩ : _ ∧ k_ ≠ go27))) (fun _ hk => hk.2) (.int .i64 (rd t287 x12_3))) (fun _ hk => hk.2) (.int .i64 (rd t287 x36_2))) (fun _ h_ => h_.1))) hb); replace HO289 := Aside0.mk (Kd.R_below (upR HQ35.out) hb); replace HB := Aside0.mk (below_step (by repeat (first | (with_reducible first | exact HB.out | apply below_alloc | apply pw_below_drewN | apply below_drew1 | refine below_set ?_ GB27.out | refine below_set ?_ GB27.out) | exact HB.out)) hb); (try clear hb); (try clear hk)))
               go_roundg k3
               case measure => have := HJ3.out; have := HK2.out; have := HK3.out; omega
               case rel => exact ⟨(y293), (t294), (wrap64 (x12_3 + 1)), rB, rB, H', ⟨by have := HJ3.out; have := HK2.out; have := HK3.out; omega⟩, ⟨by (with_reducible repeat (first | apply Kd.R_alloc | apply Kd.R_drewN | apply Kd.R_drew)); exact Kd.R_mono HO289.out (fun _ hk => trivial)⟩, (aB HB)⟩
              ·have H' := Aside0.mk H
               clear H
               try go_wp2_with (first | ((with_reducible refine gate_callee (f := 79) rfl ?_); refine goesL_ (some 48) rfl rfl Try.func79 (by kernel_rfl) rfl #[.slice A2 l2.length c2] rfl argsB ?_; (with_reducible refine (slices_Clone_int_int.calls _ _ l2 t287 _ ?side1 ?side2 A22.out).mono ?_); (case side1 => repeat (first | exact (Kd.C_below HR2.out HB.out) | (with_reducible refine Kd.C_alloc ?_ _) | (with_reducible refine Kd.C_drewN ?_ _) | (with_reducible refine Kd.C_drew ?_))); (case side2 => exact HC2.out); rintro e w37 ⟨v288, rfl, ho0, hb⟩; refine ⟨_, rfl, ?_⟩; have HO289 := Aside0.mk (Kd.R_lower (Kd.R_new' ho0 (Kd.R_lt (upR HO_9.out))) (below_size (bW HB))); replace HO_9 := Aside0.mk (Kd.R_elder' (upR HO_9.out) (Kd.R_base ho0) hb); replace HB := uB HB hb; (try clear hb); (try clear hk); (try clear ho0)))
               replace HO_9 := Aside0.mk (Kd.R_drew HO_9.out)
               replace HO289 := Aside0.mk (Kd.R_drew HO289.out)
               replace HB := Aside0.mk (below_drew1 HB.out)
               obtain ⟨Ao39, co39, eo39⟩ := Kd.R_slice HO289.out
               (first | subst eo39 | (injection eo39 with f1_ f2_ f3_; have f4_ := f1_.symm; have f5_ := f3_.symm; clear f1_ f2_ f3_; subst f4_; subst f5_))
               have p290 : 0 ≤ (x12_3 : Int) := of_decide_eq_true asmB
               have q290 : x12_3 < (t287.length : Int) := of_decide_eq_true asmB
               obtain ⟨ad290, e290, hx290_0⟩ := Kd.at_int (Kd.R_reads' HO289.out).2.2 x12_3 p290 q290
               cases e290
               replace p290 := eq_true p290
               replace q290 := eq_true q290
               have p291 : 0 ≤ (x36_2 : Int) := of_decide_eq_true asmB
               have q291 : x36_2 < (t287.length : Int) := of_decide_eq_true asmB
               obtain ⟨ad291, e291, hx291_0⟩ := Kd.at_int (Kd.R_reads' HO289.out).2.2 x36_2 p291 q291
               obtain rfl : ad290 = ad291 := (by injection e291)
               replace p291 := eq_true p291
               replace q291 := eq_true q291
               have p27 : 0 ≤ (x36_2 : Int) := of_decide_eq_true asmB
               have q27 : (x36_2 : Int) < ((t287.length : Int) : Int) := of_decide_eq_true asmB
               obtain ⟨go27, co27, eo27, gb27, gl27, cl27, HG27⟩ := Kd.R_form HO289.out (by omega)
               (first | cases eo27 | (injection eo27 with ea_ en_ ec_; (first | subst ea_ | (injection ea_ with ea_; subst ea_)); subst ec_; clear en_))
               have GB27 := Aside0.mk gb27
               have GG27 := Aside0.mk HG27
               clear gb27 gl27 HG27
               (first | simp only [add_plain] at hx290_0 | skip)
               (first | simp only [add_plain] at hx291_0 | skip)
               obtain ⟨hx27_0, hf27_0⟩ := Kd.R_celln 0 HO289.out (x36_2 : Int) p27 q27
               replace p27 := eq_true p27
               replace q27 := eq_true q27
               have HP40 := Kd.R_putn HO289.out (x36_2 : Int) (rd t287 x12_3)
               rw [← Ny292.out] at HP40
               have HQ40 := Aside0.mk HP40
               clear HP40
               have p28 : 0 ≤ (x12_3 : Int) := of_decide_eq_true asmB
               have q28 : (x12_3 : Int) < ((t287.length : Int) : Int) := of_decide_eq_true asmB
               obtain ⟨hx28_0, hf28_0⟩ := Kd.R_celln 0 HQ40.out (x12_3 : Int) p28 q28
               replace p28 := eq_true p28
               replace q28 := eq_true q28
               have HP41 := Kd.R_putn HQ40.out (x12_3 : Int) (rd t287 x36_2)
               rw [← Ny293.out] at HP41
               have HQ41 := Aside0.mk HP41
               clear HP41
               refine sA (n := 16) (S := fun w' => w'.cell? ⟨go27, (x12_3).toNat, none⟩ = some (.int .i64 (rd t287 x12_3)) ∧ w'.cell? ⟨go27, (x36_2).toNat, none⟩ = some (.int .i64 (rd t287 x36_2))) (ds := [13, 15]) impl_ImproveRenaming.tab11 impl_ImproveRenaming.bits11 #[false, false, false, false, false, false, false, false, false, false, false, false, false, false, false, false] ⟨hx290_0, hx291_0⟩ fun hHeld HT_ HW_ => ?_
               generalize w37.drew = w38 at HO_9 HO289 HB GG27 HQ40 HQ41 hf27_0 hf28_0 hx27_0 hx28_0 hx290_0 hx291_0 hHeld ⊢
               refine pA 0 49 HT_ ?_
               refine pA 1 50 HT_ ?_
               refine pA 2 51 HT_ ?_
               refine pA 3 52 HT_ ?_
               refine pA 4 53 HT_ ?_
               refine pA 5 54 HT_ ?_
               refine pA 6 55 HT_ ?_
               refine pA 8 57 HT_ ?_
               refine pA 9 58 HT_ ?_
               refine pA 10 59 HT_ ?_
               refine tA 7 56 HT_ HW_ hHeld ?_
               refine tA 11 60 HT_ HW_ hHeld ?_
               refine pA 12 61 HT_ ?_
               refine last_ (i := 13) (N := none) #[true, true, true, true, true, true, true, true, true, true, true, true, true, true, false, false] rfl rfl (one_of HT_.out (by kernel_rfl)) (by decide) (fun K hK => ?_)
               refine skip_ (w1 := ?_) (by rfl) rfl ?_ ?_
               rotate_left
               ·go_simp
                rfl
               refine hK.out _ _ ?_
               clear hK K
               refine pA 14 62 HT_ ?_
               refine last_ (i := 15) (N := none) #[true, true, true, true, true, true, true, true, true, true, true, true, true, true, true, true] rfl rfl (one_of HT_.out (by kernel_rfl)) (by decide) (fun K hK => ?_)
               refine skip_ (w1 := ?_) (by rfl) rfl ?_ ?_
               rotate_left
               ·go_simp
                rfl
               refine hK.out _ _ ?_
               clear hK K
               refine done_ (done_of HT_.out (by kernel_rfl)) ?_
               try go_wp2_with (first | ((with_reducible refine gate_callee (f := 77) rfl ?_); refine goesL_ (some 66) rfl rfl Try.func77 (by kernel_rfl) rfl #[.slice A0 l0.length c0, .slice A1 l1.length c1, .slice (some ⟨go27, 0, none⟩) y293.length co39] rfl (by (try simp only [List.map_toArray, List.map_cons, List.map_nil]); first | done | (rw [show y293.length = t287.length from (Kd.R_reads' HQ41.out).1.symm] <;> rfl) | rfl | (simp only [List.length_drop, List.length_take]; rfl)) ?_; (with_reducible refine (impl_matchScore.calls k3 _ _ l0 _ _ l1 _ _ y293 t294 _ ?side1 ?side2 ?side3 ?side4 ?side5 ?side6 A29.out).mono ?_); (case side1 => exact Kd.C_below HR0.out (by repeat (first | (with_reducible first | exact HB.out | apply below_alloc | apply pw_below_drewN | apply below_drew1 | refine below_set ?_ GB27.out | refine below_set ?_ GB27.out) | exact HB.out))); (case side2 => exact HC0.out); (case side3 => exact Kd.C_below HR1.out (by repeat (first | (with_reducible first | exact HB.out | apply below_alloc | apply pw_below_drewN | apply below_drew1 | refine below_set ?_ GB27.out | refine below_set ?_ GB27.out) | exact HB.out))); (case side4 => exact HC1.out); (case side5 => refine (Kd.R_reads' (e := 3) (base := w.heap.size) (ok := fun k_ => (True ∧ some k_ ≠ (u9 : Value).ownBlock)) (n := t287.length) (c := co39) ?_).2.2; exact (upR HQ41.out)); (case side6 => rw [show y293.length = t287.length from (Kd.R_reads' HQ41.out).1.symm]; exact (Kd.R_reads' HO289.out).2.1); rintro e w42 ⟨rfl, hb⟩; refine ⟨_, rfl, ?_⟩; replace HO_9 := Aside0.mk (Kd.R_below (by (with_reducible repeat (first | apply Kd.R_alloc | apply Kd.R_drewN | apply Kd.R_drew)); exact (Kd.R_mono (Kd.R_far (p := ⟨go27, (x12_3 : Int).toNat, none⟩) (Kd.R_far (p := ⟨go27, (x36_2 : Int).toNat, none⟩) (Kd.R_mono HO_9.out (fun k_ hk => (⟨hk, fun e_ => hk.2 (by rw [e_]; rfl)⟩ : _ ∧ k_ ≠ go27))) (fun _ hk => hk.2) (.int .i64 (rd t287 x12_3))) (fun _ hk => hk.2) (.int .i64 (rd t287 x36_2))) (fun _ h_ => h_.1))) hb); replace HO289 := Aside0.mk (Kd.R_below (upR HQ41.out) hb); replace HB := Aside0.mk (below_step (by repeat (first | (with_reducible first | exact HB.out | apply below_alloc | apply pw_below_drewN | apply below_drew1 | refine below_set ?_ GB27.out | refine below_set ?_ GB27.out) | exact HB.out)) hb); (try clear hb); (try clear hk)))
               go_roundg k3
               case measure => have := HJ3.out; have := HK2.out; have := HK3.out; omega
               case rel => exact ⟨(x9_3), (x10_3), (wrap64 (x12_3 + 1)), rB, rB, H', ⟨by have := HJ3.out; have := HK2.out; have := HK3.out; omega⟩, ⟨by (with_reducible repeat (first | apply Kd.R_alloc | apply Kd.R_drewN | apply Kd.R_drew)); exact Kd.R_mono HO_9.out (fun _ hk => trivial)⟩, (aB HB)⟩
             ·rw [if_neg c26] at H
              exact absurd H (by simp)
            ·rw [if_neg c25] at H
             exact absurd H (by simp)
           ·rw [if_neg c24] at H
            exact absurd H (by simp)
          ·rw [if_neg c23] at H
           exact absurd H (by simp)
         ·have H' := Aside0.mk H
          clear H
          go_wp2
          go_roundg k3
          case measure => have := HJ3.out; have := HK2.out; have := HK3.out; omega
          case rel => exact ⟨(x9_3), (x10_3), (wrap64 (x36_2 + 1)), rB, rB, H', ⟨by have := HJ3.out; have := HK2.out; have := HK3.out; omega⟩, ⟨upR HO_9.out⟩, (aB HB)⟩
      ·simp only [Option.some.injEq, Prod.mk.injEq] at H
       obtain ⟨rfl, rfl, rfl⟩ := H
       go_wp2
       go_ret3
       exact ⟨_, eB, upR HO_9.out, (bW HB)⟩

/-! ### laws_vBig: function 44 -/
def laws_vBig.f (l0 : List Int) : Option (Bool) := some (decide ((l0.length : Int) > 65536))
set_option maxHeartbeats 8000000 in
set_option maxRecDepth 100000 in
theorem laws_vBig.calls (A0 : Option Addr) (c0 : Nat) (l0 : List Int) (r : Bool) (w : World) (hr0 : Kd.C (Kd.int .u8) w A0 l0.length l0) (hc0 : l0.length ≤ c0) (h : laws_vBig.f l0 = some r) :
  Calls Try.prog 44 #[.slice A0 l0.length c0] w fun e w' => e = .returned (.bool r) ∧ Drawn0 w w' := by
 have HR0 := Aside0.mk hr0
 have HC0 := Aside0.mk hc0
 clear hr0 hc0
 have H : (some (decide ((l0.length : Int) > 65536))) = some r := h
 clear h
 obtain rfl := Option.some.inj H
 go_enter Try.func44, Try.ntmps44
 go_wp2
 go_ret
 exact ⟨rB, by repeat (first | exact Drawn0.refl _ | apply Drawn0.step)⟩

end Go.Proofs.Ytfaojmabalplfaa.QFnRenamings
