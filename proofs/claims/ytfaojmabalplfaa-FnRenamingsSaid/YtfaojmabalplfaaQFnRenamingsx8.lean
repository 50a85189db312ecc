/- Contracts of Go functions that FnRenamings reaches: the call computes what the plain function says. No condition. -/
import Derived.Test.YtfaojmabalplfaaQFnRenamingsx0
import Derived.Test.YtfaojmabalplfaaQFnRenamingsx2
import Derived.Test.YtfaojmabalplfaaQFnRenamingsx3
import Derived.Test.YtfaojmabalplfaaQFnRenamingsx4
import Derived.Test.YtfaojmabalplfaaQFnRenamingsx6
import Derived.Test.YtfaojmabalplfaaQFnRenamingsx7
namespace Go.Proofs.Ytfaojmabalplfaa.QFnRenamings
open Go.RowKit Go.Proofs.YtfaojmabalplfaaW.PrintWords Go.Proofs.YtfaojmabalplfaaW.PrintLast Go.Proofs.YtfaojmabalplfaaW.PrintMore
attribute [local go_sem] max2_int min2_int max_two min_two max_three min_three max_four min_four   -- for this text's walks alone
set_option linter.unusedVariables false
set_option linter.unusedSimpArgs false

/-! ### spec_ImproveRenaming: function 42 -/
mutual
def spec_ImproveRenaming.j0 : Nat → List (S70) → List (S70) → List Int → Bool → Option (List Int × Int × Bool)
 | 0, _, _, _, _ => none
 | k + 1, x0, x1, x2, x27 => if x27 = true then (some ((([] : List Int)), 0, false)) else ((spec_l1Own.f x2).bind fun t262 => ((spec_l20Rename.f x1 x2).bind fun t265 => ((spec_l20Score.f k x0 t265).bind fun t268 => (spec_ImproveRenaming.l0 k x0 x1 x2 t262 t268 0))))
def spec_ImproveRenaming.l0 : Nat → List (S70) → List (S70) → List Int → List Int → Int → Int → Option (List Int × Int × Bool)
 | 0, _, _, _, _, _, _ => none
 | k + 1, x0, x1, x2, x9, x10, x11 => if x11 < (x2.length : Int) then (spec_ImproveRenaming.l1 k x0 x1 x2 x9 x10 x11 (wrap64 (x11 + 1))) else (some (x9, x10, true))
def spec_ImproveRenaming.l1 : Nat → List (S70) → List (S70) → List Int → List Int → Int → Int → Int → Option (List Int × Int × Bool)
 | 0, _, _, _, _, _, _, _ => none
 | k + 1, x0, x1, x2, x9, x10, x11, x12 => if x12 < (x2.length : Int) then ((spec_l1Own.f x2).bind fun t269 => (if 0 ≤ x12 then (if 0 ≤ x11 then (if x11 < (t269.length : Int) then (if x11 < (x2.length : Int) then (if x12 < (t269.length : Int) then ((some ((t269.set (x11 : Int).toNat (rd x2 x12)).set (x12 : Int).toNat (rd x2 x11) : List Int)).bind fun y275 => ((spec_l20Rename.f x1 y275).bind fun t276 => ((spec_l20Score.f k x0 t276).bind fun t279 => (if t279 > x10 then (spec_ImproveRenaming.l1 k x0 x1 x2 y275 t279 x11 (wrap64 (x12 + 1))) else (spec_ImproveRenaming.l1 k x0 x1 x2 x9 x10 x11 (wrap64 (x12 + 1))))))) else (none)) else (none)) else (none)) else (none)) else (none))) else (spec_ImproveRenaming.l0 k x0 x1 x2 x9 x10 (wrap64 (x11 + 1)))
end
def spec_ImproveRenaming.f (k : Nat) (l0 : List (S70)) (l1 : List (S70)) (l2 : List Int) : Option (List Int × Int × Bool) := (spec_l4Legs.f k l0).bind fun t256 => (if t256 = true then ((spec_l4Legs.f k l1).bind fun t257 => (if t257 = true then ((spec_l20Good.f k l2).bind fun t258 => (spec_ImproveRenaming.j0 k l0 l1 l2 (!t258))) else (spec_ImproveRenaming.j0 k l0 l1 l2 true))) else (spec_ImproveRenaming.j0 k l0 l1 l2 true))
theorem spec_ImproveRenaming.mono_l : ∀ k, (∀ y0 y1 y2 y3, LeO (spec_ImproveRenaming.j0 k y0 y1 y2 y3) (spec_ImproveRenaming.j0 (k + 1) y0 y1 y2 y3)) ∧ (∀ y0 y1 y2 y3 y4 y5, LeO (spec_ImproveRenaming.l0 k y0 y1 y2 y3 y4 y5) (spec_ImproveRenaming.l0 (k + 1) y0 y1 y2 y3 y4 y5)) ∧ (∀ y0 y1 y2 y3 y4 y5 y6, LeO (spec_ImproveRenaming.l1 k y0 y1 y2 y3 y4 y5 y6) (spec_ImproveRenaming.l1 (k + 1) y0 y1 y2 y3 y4 y5 y6))
 | 0 => ⟨fun _ _ _ _ r h => by simp [spec_ImproveRenaming.j0] at h, fun _ _ _ _ _ _ r h => by simp [spec_ImproveRenaming.l0] at h, fun _ _ _ _ _ _ _ r h => by simp [spec_ImproveRenaming.l1] at h⟩
 | k + 1 => by
  obtain ⟨ih0, ih1, ih2⟩ := spec_ImproveRenaming.mono_l k
  refine ⟨?_, ?_, ?_⟩
  ·intro y0 y1 y2 y3
   unfold spec_ImproveRenaming.j0
   repeat' with_reducible first | apply ih0 | apply ih1 | apply ih2 | apply spec_l20Good.mono | apply spec_l20Score.mono | apply spec_l4Legs.mono | exact LeO.refl _ | exact LeO.none _ | refine LeO.ite ?_ ?_ | refine LeO.bind ?_ (fun _ => ?_)
  ·intro y0 y1 y2 y3 y4 y5
   unfold spec_ImproveRenaming.l0
   repeat' with_reducible first | apply ih0 | apply ih1 | apply ih2 | apply spec_l20Good.mono | apply spec_l20Score.mono | apply spec_l4Legs.mono | exact LeO.refl _ | exact LeO.none _ | refine LeO.ite ?_ ?_ | refine LeO.bind ?_ (fun _ => ?_)
  ·intro y0 y1 y2 y3 y4 y5 y6
   unfold spec_ImproveRenaming.l1
   repeat' with_reducible first | apply ih0 | apply ih1 | apply ih2 | apply spec_l20Good.mono | apply spec_l20Score.mono | apply spec_l4Legs.mono | exact LeO.refl _ | exact LeO.none _ | refine LeO.ite ?_ ?_ | refine LeO.bind ?_ (fun _ => ?_)
theorem spec_ImproveRenaming.mono : ∀ a0 a1 a2 k, LeO (spec_ImproveRenaming.f k a0 a1 a2) (spec_ImproveRenaming.f (k + 1) a0 a1 a2) := by
 intro a0 a1 a2 k
 obtain ⟨ih0, ih1, ih2⟩ := spec_ImproveRenaming.mono_l k
 unfold spec_ImproveRenaming.f
 repeat' with_reducible first | apply ih0 | apply ih1 | apply ih2 | apply spec_l20Good.mono | apply spec_l20Score.mono | apply spec_l4Legs.mono | exact LeO.refl _ | exact LeO.none _ | refine LeO.ite ?_ ?_ | refine LeO.bind ?_ (fun _ => ?_)
set_option maxHeartbeats 8000000 in
set_option maxRecDepth 100000 in
theorem spec_ImproveRenaming.calls (k : Nat) (A0 : Option Addr) (c0 : Nat) (l0 : List (S70)) (A1 : Option Addr) (c1 : Nat) (l1 : List (S70)) (A2 : Option Addr) (c2 : Nat) (l2 : List Int) (r1 : List Int) (r2 : Int) (r3 : Bool) (w : World) (hr0 : Kd.C k70 w A0 l0.length l0) (hc0 : l0.length ≤ c0) (hr1 : Kd.C k70 w A1 l1.length l1) (hc1 : l1.length ≤ c1) (hr2 : Kd.C (Kd.int .i64) w A2 l2.length l2) (hc2 : l2.length ≤ c2) (h : spec_ImproveRenaming.f k l0 l1 l2 = some (r1, r2, r3)) :
  Calls Try.prog 42 #[.slice A0 l0.length c0, .slice A1 l1.length c1, .slice A2 l2.length c2] w fun e w' => ∃ v0_ : Value, e = .returned (.tuple #[v0_, .int .i64 r2, .bool r3]) ∧ Kd.R (Kd.int .i64) 3 w' w.heap.size (fun _ => True) v0_ r1 ∧ Below w.heap.size w w' := by
 have HR0 := Aside0.mk hr0
 have HC0 := Aside0.mk hc0
 clear hr0 hc0
 have HR1 := Aside0.mk hr1
 have HC1 := Aside0.mk hc1
 clear hr1 hc1
 have HR2 := Aside0.mk hr2
 have HC2 := Aside0.mk hc2
 clear hr2 hc2
 have HB := Aside0.mk (Below.refl w.heap.size w)
 have H := h
 clear h
 unfold spec_ImproveRenaming.f at H
 have HC4 := Aside0.mk H
 clear H
 go_enter Try.func42, Try.ntmps42
 go_upto_region 1 with (fail)
 go_cut [27] (fun v27 wc => ∃ (kq : Nat) (x27_3 : Bool), v27 = .bool x27_3 ∧ Aside0 (spec_ImproveRenaming.j0 kq l0 l1 l2 x27_3 = some (r1, r2, r3)) ∧ Aside0 (kq ≤ k) ∧ Aside0 (Below w.heap.size w wc))
 case first =>
  have H := HC4.out
  clear HC4
  replace H := bA H
  obtain ⟨t256, A5, H⟩ := H
  rcases Bool.eq_false_or_eq_true t256 with rfl | rfl
  ·replace H := iT rfl H
   replace H := bA H
   obtain ⟨t257, A7, H⟩ := H
   rcases Bool.eq_false_or_eq_true t257 with rfl | rfl
   ·replace H := iT rfl H
    replace H := bA H
    obtain ⟨t258, A9, H⟩ := H
    have H' := Aside0.mk H
    clear H
    go_wp2_with (first | ((with_reducible refine gC 59 ?_); refine lA (some 16) Try.func59 (spec_l4Legs.calls k _ _ l0 true _ ?side1 ?side2 A5.out) ?_; (case side1 => repeat (first | exact (Kd.C_below HR0.out HB.out) | (with_reducible refine Kd.C_alloc ?_ _) | (with_reducible refine Kd.C_drewN ?_ _) | (with_reducible refine Kd.C_drew ?_))); (case side2 => exact HC0.out); intro w10 hb; replace HB := uB HB hb; (try clear hb); (try clear hk)) | (go_at_call 59; (with_reducible refine (spec_l4Legs.calls k _ _ l1 true _ ?side1 ?side2 A7.out).mono ?_); (case side1 => repeat (first | exact (Kd.C_below HR1.out HB.out) | (with_reducible refine Kd.C_alloc ?_ _) | (with_reducible refine Kd.C_drewN ?_ _) | (with_reducible refine Kd.C_drew ?_))); (case side2 => exact HC1.out); rintro e w11 ⟨rfl, hb⟩; replace HB := uB HB hb; (try clear hb); (try clear hk)) | (go_at_call 56; (with_reducible refine (spec_l20Good.calls k _ _ l2 t258 _ ?side1 ?side2 A9.out).mono ?_); (case side1 => repeat (first | exact (Kd.C_below HR2.out HB.out) | (with_reducible refine Kd.C_alloc ?_ _) | (with_reducible refine Kd.C_drewN ?_ _) | (with_reducible refine Kd.C_drew ?_))); (case side2 => exact HC2.out); rintro e w' ⟨rfl, ⟨nd, rfl⟩⟩))
    go_meet
    case rel => exact ⟨_, (!t258), rB, H', leB, (aB HB)⟩
   ·replace H := iF (by decide) H
    have H' := Aside0.mk H
    clear H
    go_wp2_with (first | ((with_reducible refine gC 59 ?_); refine lA (some 16) Try.func59 (spec_l4Legs.calls k _ _ l0 true _ ?side1 ?side2 A5.out) ?_; (case side1 => repeat (first | exact (Kd.C_below HR0.out HB.out) | (with_reducible refine Kd.C_alloc ?_ _) | (with_reducible refine Kd.C_drewN ?_ _) | (with_reducible refine Kd.C_drew ?_))); (case side2 => exact HC0.out); intro w12 hb; replace HB := uB HB hb; (try clear hb); (try clear hk)) | (go_at_call 59; (with_reducible refine (spec_l4Legs.calls k _ _ l1 false _ ?side1 ?side2 A7.out).mono ?_); (case side1 => repeat (first | exact (Kd.C_below HR1.out HB.out) | (with_reducible refine Kd.C_alloc ?_ _) | (with_reducible refine Kd.C_drewN ?_ _) | (with_reducible refine Kd.C_drew ?_))); (case side2 => exact HC1.out); rintro e w13 ⟨rfl, hb⟩; replace HB := uB HB hb; (try clear hb); (try clear hk)))
    go_meet
    case rel => exact ⟨_, (true), rB, H', leB, (aB HB)⟩
  ·replace H := iF (by decide) H
   have H' := Aside0.mk H
   clear H
   go_wp2_with (first | ((with_reducible refine gC 59 ?_); refine lA (some 16) Try.func59 (spec_l4Legs.calls k _ _ l0 false _ ?side1 ?side2 A5.out) ?_; (case side1 => repeat (first | exact (Kd.C_below HR0.out HB.out) | (with_reducible refine Kd.C_alloc ?_ _) | (with_reducible refine Kd.C_drewN ?_ _) | (with_reducible refine Kd.C_drew ?_))); (case side2 => exact HC0.out); intro w14 hb; replace HB := uB HB hb; (try clear hb); (try clear hk)))
   go_meet
   case rel => exact ⟨_, (true), rB, H', leB, (aB HB)⟩
 case rest =>
  clear HC4
  try clear c1
  try clear c2
  obtain ⟨kq, x27_3, rfl, HA, HJ3, HB⟩ := hcut
  cases kq with
  | zero => exact absurd HA.out (by simp [spec_ImproveRenaming.j0])
  | succ kj3 =>
   have H := HA.out
   clear HA
   simp only [spec_ImproveRenaming.j0] at H
   rcases Bool.eq_false_or_eq_true x27_3 with rfl | rfl
   ·replace H := iT rfl H
    obtain ⟨y259, hy259⟩ : ∃ y_ : List Int, y_ = (([] : List Int)) := ⟨_, rfl⟩
    replace H : (some (y259, 0, false)) = some (r1, r2, r3) := by first | (rw [hy259]; with_reducible exact H) | (have H2_ := (Option.bind_some _ _).symm.trans H; rw [hy259]; with_reducible exact H2_) | (have H2_ := (Option.bind_some _ _).symm.trans H; with_reducible exact H2_) | with_reducible exact H | (rw [hy259]; exact H) | exact H
    have Ny259 := Aside0.mk hy259
    clear hy259
    simp only [Option.some.injEq, Prod.mk.injEq] at H
    obtain ⟨rfl, rfl, rfl⟩ := H
    go_wp2_with (first | ((with_reducible refine gate_dst (N := 28) rfl ?_); refine Kd.R_lit (Kd.int .i64) _ 3 ?hg (N := 28) ?hd (xs := ([] : List Int)) (inner := []) (ok := fun _ => True) (okp := fun _ => True) ?hr ?hp (fun _ hk => hk) trivial (Below.refl _ _) (Nat.le_refl _) (by simp) ?_; (case hd => rfl); (case hg => rfl); (case hr => first | (go_simp; done) | (go_simp; rfl)); (case hp => exact (Reps.none _ _)); intro v260 w16 ho17 hb hg_ hnew_; clear hg_ hnew_; (first | rw [← Ny259.out] at ho17 | (simp only [Int.reduceToNat] at ho17; rw [← Ny259.out] at ho17)); have HO261 := Aside0.mk (Kd.R_lower ho17 (below_size (bW HB))); replace HB := uB HB hb; clear hb ho17))
    go_ret3
    exact ⟨_, eB, upR HO261.out, (bW HB)⟩
   ·replace H := iF (by decide) H
    replace H := bA H
    obtain ⟨t262, A18, H⟩ := H
    replace H := bA H
    obtain ⟨t265, A19, H⟩ := H
    replace H := bA H
    obtain ⟨t268, A20, H⟩ := H
    have H' := Aside0.mk H
    clear H
    go_wp2_with (first | ((with_reducible refine gate_callee (f := 78) rfl ?_); refine goesL_ (some 30) rfl rfl Try.func78 (by kernel_rfl) rfl #[.slice A2 l2.length c2] rfl argsB ?_; (with_reducible refine (spec_l1Own.calls _ _ l2 t262 _ ?side1 ?side2 A18.out).mono ?_); (case side1 => repeat (first | exact (Kd.C_below HR2.out HB.out) | (with_reducible refine Kd.C_alloc ?_ _) | (with_reducible refine Kd.C_drewN ?_ _) | (with_reducible refine Kd.C_drew ?_))); (case side2 => exact HC2.out); rintro e w21 ⟨v263, rfl, ho0, hb⟩; refine ⟨_, rfl, ?_⟩; have HO264 := Aside0.mk (Kd.R_lower ho0 (below_size (bW HB))); replace HB := uB HB hb; (try clear hb); (try clear hk); (try clear ho0)) | ((with_reducible refine gate_callee (f := 71) rfl ?_); refine goesL_ (some 34) rfl rfl Try.func71 (by kernel_rfl) rfl #[.slice A1 l1.length c1, .slice A2 l2.length c2] rfl argsB ?_; (with_reducible refine (spec_l20Rename.calls _ _ l1 _ _ l2 t265 _ ?side1 ?side2 ?side3 ?side4 A19.out).mono ?_); (case side1 => repeat (first | exact (Kd.C_below HR1.out HB.out) | (with_reducible refine Kd.C_alloc ?_ _) | (with_reducible refine Kd.C_drewN ?_ _) | (with_reducible refine Kd.C_drew ?_))); (case side2 => exact HC1.out); (case side3 => repeat (first | exact (Kd.C_below HR2.out HB.out) | (with_reducible refine Kd.C_alloc ?_ _) | (with_reducible refine Kd.C_drewN ?_ _) | (with_reducible refine Kd.C_drew ?_))); (case side4 => exact HC2.out); rintro e w22 ⟨v266, rfl, ho0, hb⟩; refine ⟨_, rfl, ?_⟩; have HO267 := Aside0.mk (Kd.R_lower ho0 (below_size (bW HB))); replace HO264 := uR HO264 hb; replace HB := uB HB hb; (try clear hb); (try clear hk); (try clear ho0); obtain ⟨Ao23, co23, eo23⟩ := Kd.R_slice HO267.out; subst eo23) | ((with_reducible refine gC 76 ?_); refine lA (some 35) Try.func76 (spec_l20Score.calls kj3 _ _ l0 _ _ t265 t268 _ ?side1 ?side2 ?side3 ?side4 A20.out) ?_; (case side1 => repeat (first | exact (Kd.C_below HR0.out HB.out) | (with_reducible refine Kd.C_alloc ?_ _) | (with_reducible refine Kd.C_drewN ?_ _) | (with_reducible refine Kd.C_drew ?_))); (case side2 => exact HC0.out); (case side3 => repeat (first | exact (Kd.R_reads' HO267.out).2.2 | (with_reducible refine Kd.C_alloc ?_ _) | (with_reducible refine Kd.C_drewN ?_ _) | (with_reducible refine Kd.C_drew ?_))); (case side4 => exact (Kd.R_reads' HO267.out).2.1); intro w24 hb; replace HO264 := uR HO264 hb; replace HO267 := uR HO267 hb; replace HB := uB HB hb; (try clear hb); (try clear hk)))
    (try simp only [Act.put, List.setIfInBounds_toArray, List.set_cons_zero, List.set_cons_succ])
    go_loopg [9, 10, 11] kj3 (fun kq v9 v10 v11 w' => ∃ (x9_2 : List Int) (x10_2 x11_2 : Int), v10 = .int .i64 x10_2 ∧ v11 = .int .i64 x11_2 ∧ Aside0 (spec_ImproveRenaming.l0 kq l0 l1 l2 x9_2 x10_2 x11_2 = some (r1, r2, r3)) ∧ Aside0 (kq ≤ kj3) ∧ Aside0 (Kd.R (Kd.int .i64) 3 w' w.heap.size (fun _ => True) v9 x9_2) ∧ Aside0 (Below w.heap.size w w'))
    case atStart => exact ⟨(t262), (t268), (0), rB, rB, H', ⟨Nat.le_refl _⟩, ⟨upR HO264.out⟩, (aB HB)⟩
    case round =>
     clear H'
     try clear c1
     try clear c2
     obtain ⟨x9_2, x10_2, x11_2, rfl, rfl, HA, HK2, HO_9, HB⟩ := hrel
     cases gk with
     | zero => exact absurd HA.out (by simp [spec_ImproveRenaming.l0])
     | succ k2 =>
      have H := HA.out
      clear HA
      simp only [spec_ImproveRenaming.l0] at H
      replace H := ifD H
      rcases H with ⟨H, -, c25b0⟩ | ⟨H, -, c25b0⟩
      ·have H' := Aside0.mk H
       clear H
       go_wp2
       go_loopg [9, 10, 12] k2 (fun kq v9 v10 v12 w' => ∃ (x9_3 : List Int) (x10_3 x12_3 : Int), v10 = .int .i64 x10_3 ∧ v12 = .int .i64 x12_3 ∧ Aside0 (spec_ImproveRenaming.l1 kq l0 l1 l2 x9_3 x10_3 x11_2 x12_3 = some (r1, r2, r3)) ∧ Aside0 (kq ≤ k2) ∧ Aside0 (Kd.R (Kd.int .i64) 3 w' w.heap.size (fun _ => True) v9 x9_3) ∧ Aside0 (Below w.heap.size w w'))
       case atStart => exact ⟨(x9_2), (x10_2), (wrap64 (x11_2 + 1)), rB, rB, H', ⟨Nat.le_refl _⟩, ⟨upR HO_9.out⟩, (aB HB)⟩
       case round =>
        clear H'
        try clear c1
        try clear c2
        try clear c25b0
        obtain ⟨x9_3, x10_3, x12_3, rfl, rfl, HA, HK3, HO_9, HB⟩ := hrel
        cases gk with
        | zero => exact absurd HA.out (by simp [spec_ImproveRenaming.l1])
        | succ k3 =>
         have H := HA.out
         clear HA
         simp only [spec_ImproveRenaming.l1] at H
         replace H := ifD H
         rcases H with ⟨H, -, c26b0⟩ | ⟨H, -, c26b0⟩
         ·replace H := bA H
          obtain ⟨t269, A27, H⟩ := H
          by_cases c28 : 0 ≤ x12_3
          ·rw [if_pos c28] at H
           have c28b0 : decide (0 ≤ x12_3) = true := decide_eq_true c28
           clear c28
           by_cases c29 : 0 ≤ x11_2
           ·rw [if_pos c29] at H
            have c29b0 : decide (0 ≤ x11_2) = true := decide_eq_true c29
            clear c29
            by_cases c30 : x11_2 < (t269.length : Int)
            ·rw [if_pos c30] at H
             have c30b0 : decide (x11_2 < (t269.length : Int)) = true := decide_eq_true c30
             clear c30
             obtain ⟨y273, hy273⟩ : ∃ y_ : List Int, y_ = (t269.set (x11_2 : Int).toNat (rd l2 x12_3)) := ⟨_, rfl⟩
             replace H : (if x11_2 < (l2.length : Int) then (if x12_3 < (t269.length : Int) then ((some (y273.set (x12_3 : Int).toNat (rd l2 x11_2) : List Int)).bind fun y275 => ((spec_l20Rename.f l1 y275).bind fun t276 => ((spec_l20Score.f k3 l0 t276).bind fun t279 => (if t279 > x10_3 then (spec_ImproveRenaming.l1 k3 l0 l1 l2 y275 t279 x11_2 (wrap64 (x12_3 + 1))) else (spec_ImproveRenaming.l1 k3 l0 l1 l2 x9_3 x10_3 x11_2 (wrap64 (x12_3 + 1))))))) else (none)) else (none)) = some (r1, r2, r3) := by first | (rw [hy273]; with_reducible exact H) | (have H2_ := (Option.bind_some _ _).symm.trans H; rw [hy273]; with_reducible exact H2_) | (have H2_ := (Option.bind_some _ _).symm.trans H; with_reducible exact H2_) | with_reducible exact H | (rw [hy273]; exact H) | exact H
             have Ny273 := Aside0.mk hy273
             clear hy273
             by_cases c32 : x11_2 < (l2.length : Int)
             ·rw [if_pos c32] at H
              have c32b0 : decide (x11_2 < (l2.length : Int)) = true := decide_eq_true c32
              clear c32
              by_cases c33 : x12_3 < (t269.length : Int)
              ·rw [if_pos c33] at H
               have c33b0 : decide (x12_3 < (t269.length : Int)) = true := decide_eq_true c33
               clear c33
               obtain ⟨y275, hy275⟩ : ∃ y_ : List Int, y_ = (y273.set (x12_3 : Int).toNat (rd l2 x11_2)) := ⟨_, rfl⟩
               replace H : ((spec_l20Rename.f l1 y275).bind fun t276 => ((spec_l20Score.f k3 l0 t276).bind fun t279 => (if t279 > x10_3 then (spec_ImproveRenaming.l1 k3 l0 l1 l2 y275 t279 x11_2 (wrap64 (x12_3 + 1))) else (spec_ImproveRenaming.l1 k3 l0 l1 l2 x9_3 x10_3 x11_2 (wrap64 (x12_3 + 1)))))) = some (r1, r2, r3) := by first | (rw [hy275]; with_reducible exact H) | (have H2_ := (Option.bind_some _ _).symm.trans H; rw [hy275]; with_reducible exact H2_) | (have H2_ := (Option.bind_some _ _).symm.trans H; with_reducible exact H2_) | with_reducible exact H | (rw [hy275]; exact H) | exact H
               have Ny275 := Aside0.mk hy275
               clear hy275
               replace H := bA H
               obtain ⟨t276, A35, H⟩ := H
               replace H := bA H
               obtain ⟨t279, A36, H⟩ := H
               replace H := ifD H
               rcases H with ⟨H, -, c37b0⟩ | ⟨H, -, c37b0⟩
               ·have H' := Aside0.mk H
                clear H
                go_wp2_with (first | ((with_reducible refine gate_callee (f := 78) rfl ?_); refine goesL_ (some 51) rfl rfl Try.func78 (by kernel_rfl) rfl #[.slice A2 l2.length c2] rfl argsB ?_; (with_reducible refine (spec_l1Own.calls _ _ l2 t269 _ ?side1 ?side2 A27.out).mono ?_); (case side1 => repeat (first | exact (Kd.C_below HR2.out HB.out) | (with_reducible refine Kd.C_alloc ?_ _) | (with_reducible refine Kd.C_drewN ?_ _) | (with_reducible refine Kd.C_drew ?_))); (case side2 => exact HC2.out); rintro e w38 ⟨v270, rfl, ho0, hb⟩; refine ⟨_, rfl, ?_⟩; have HO271 := Aside0.mk (Kd.R_lower (Kd.R_new' ho0 (Kd.R_lt (upR HO_9.out))) (below_size (bW HB))); replace HO_9 := Aside0.mk (Kd.R_elder' (upR HO_9.out) (Kd.R_base ho0) hb); replace HB := uB HB hb; (try clear hb); (try clear hk); (try clear ho0); have p272 : 0 ≤ (x12_3 : Int) := of_decide_eq_true asmB; have q272 : x12_3 < (l2.length : Int) := of_decide_eq_true asmB; obtain ⟨ad272, e272, hx272_0⟩ := Kd.at_int HR2.out x12_3 p272 q272; cases e272; replace hx272_0 := bx HB.out hx272_0; replace p272 := eq_true p272; replace q272 := eq_true q272; have p31 : 0 ≤ (x11_2 : Int) := of_decide_eq_true asmB; have q31 : (x11_2 : Int) < ((t269.length : Int) : Int) := of_decide_eq_true asmB; obtain ⟨go31, co31, eo31, gb31, gl31, cl31, HG31⟩ := Kd.R_form HO271.out (by omega); (first | cases eo31 | (injection eo31 with ea_ en_ ec_; (first | subst ea_ | (injection ea_ with ea_; subst ea_)); subst ec_; clear en_)); have GB31 := Aside0.mk gb31; have GG31 := Aside0.mk HG31; clear gb31 gl31 HG31; obtain ⟨hx31_0, hf31_0⟩ := Kd.R_celln 0 HO271.out (x11_2 : Int) p31 q31; replace p31 := eq_true p31; replace q31 := eq_true q31; have n_ := Aside0.mk (Kd.R_mono (ok' := (fun k_ => some k_ ≠ (u9 : Value).ownBlock)) HO271.out (fun k_ hk => hk.2)); clear HO271; have HO271 := n_; clear n_; obtain ⟨hy39_, hz39_⟩ := Kd.R_celln 0 HO271.out (x11_2 : Int) (of_decide_eq_true asmB) (of_decide_eq_true asmB); have HP39 := Kd.R_putg HO271.out (x11_2 : Int) (rd l2 x12_3)) | ((with_reducible refine gate_store (t := 3) (p := 58) rfl ?_); refine store_event (t := 3) (p := 58) (v := ?vo_w40) (w1 := (w38.setCell ⟨go31, (x11_2 : Int).toNat, none⟩ (.int .i64 (rd l2 x12_3)))) ?hg ?ho ?hn ?hr ?_; (case ho => rfl); (case hg => rfl); (case hn => rfl); (case hr => first | (go_simp; done) | (go_simp; rfl)); intro w40 hw; have hg : w38.grownBy w40 (some go31) := (by rw [hw]; exact HP39.2); have hp_ : Kd.R (Kd.int .i64) 3 w40 w.heap.size (fun k_ => some k_ ≠ (u9 : Value).ownBlock) (.slice (some ⟨go31, 0, none⟩) t269.length co31) y273 := (by rw [hw, Ny273.out]; exact HP39.1); clear HP39; replace HO_9 := Aside0.mk (Kd.R_after (v := (.slice (some ⟨go31, 0, none⟩) t269.length co31)) (v1 := (.slice (some ⟨go31, 0, none⟩) t269.length co31)) (ok := (fun _ => True)) (upR HO_9.out) hg (.inl rfl)); replace HO271 := Aside0.mk (hp_); replace HB := Aside0.mk ((by rw [hw]; exact below_set (HB.out) GB31.out : Below w.heap.size w w40)); clear hg hw hp_; have p274 : 0 ≤ (x11_2 : Int) := of_decide_eq_true asmB; have q274 : x11_2 < (l2.length : Int) := of_decide_eq_true asmB; obtain ⟨ad274, e274, hx274_0⟩ := Kd.at_int HR2.out x11_2 p274 q274; obtain rfl : ad272 = ad274 := (by injection e274); replace hx274_0 := bx HB.out hx274_0; replace p274 := eq_true p274; replace q274 := eq_true q274; have p34 : 0 ≤ (x12_3 : Int) := of_decide_eq_true asmB; have q34 : (x12_3 : Int) < ((t269.length : Int) : Int) := of_decide_eq_true asmB; obtain ⟨hx34_0, hf34_0⟩ := Kd.R_celln 0 HO271.out (x12_3 : Int) p34 q34; replace p34 := eq_true p34; replace q34 := eq_true q34; obtain ⟨hy41_, hz41_⟩ := Kd.R_celln 0 HO271.out (x12_3 : Int) (of_decide_eq_true asmB) (of_decide_eq_true asmB); have HP41 := Kd.R_putg HO271.out (x12_3 : Int) (rd l2 x11_2)) | ((with_reducible refine gate_store (t := 3) (p := 65) rfl ?_); refine store_event (t := 3) (p := 65) (v := ?vo_w42) (w1 := (w40.setCell ⟨go31, (x12_3 : Int).toNat, none⟩ (.int .i64 (rd l2 x11_2)))) ?hg ?ho ?hn ?hr ?_; (case ho => rfl); (case hg => rfl); (case hn => rfl); (case hr => first | (go_simp; done) | (go_simp; rfl)); intro w42 hw; have hg : w40.grownBy w42 (some go31) := (by rw [hw]; exact HP41.2); have hp_ : Kd.R (Kd.int .i64) 3 w42 w.heap.size (fun k_ => some k_ ≠ (u9 : Value).ownBlock) (.slice (some ⟨go31, 0, none⟩) t269.length co31) y275 := (by rw [hw, Ny275.out]; exact HP41.1); clear HP41; replace HO_9 := Aside0.mk (Kd.R_after (v := (.slice (some ⟨go31, 0, none⟩) t269.length co31)) (v1 := (.slice (some ⟨go31, 0, none⟩) t269.length co31)) (ok := (fun _ => True)) (upR HO_9.out) hg (.inl rfl)); replace HO271 := Aside0.mk (hp_); replace HB := Aside0.mk ((by rw [hw]; exact below_set (HB.out) GB31.out : Below w.heap.size w w42)); clear hg hw hp_) | ((with_reducible refine gate_callee (f := 71) rfl ?_); refine goesL_ (some 69) rfl rfl Try.func71 (by kernel_rfl) rfl #[.slice A1 l1.length c1, .slice (some ⟨go31, 0, none⟩) y275.length co31] rfl (by (try simp only [List.map_toArray, List.map_cons, List.map_nil]); first | done | (rw [show y275.length = t269.length from (Kd.R_reads' HO271.out).1.symm] <;> rfl) | rfl | (simp only [List.length_drop, List.length_take]; rfl)) ?_; (with_reducible refine (spec_l20Rename.calls _ _ l1 _ _ y275 t276 _ ?side1 ?side2 ?side3 ?side4 A35.out).mono ?_); (case side1 => repeat (first | exact (Kd.C_below HR1.out HB.out) | (with_reducible refine Kd.C_alloc ?_ _) | (with_reducible refine Kd.C_drewN ?_ _) | (with_reducible refine Kd.C_drew ?_))); (case side2 => exact HC1.out); (case side3 => repeat (first | exact (Kd.R_reads' HO271.out).2.2 | (with_reducible refine Kd.C_alloc ?_ _) | (with_reducible refine Kd.C_drewN ?_ _) | (with_reducible refine Kd.C_drew ?_))); (case side4 => rw [show y275.length = t269.length from (Kd.R_reads' HO271.out).1.symm]; exact (Kd.R_reads' HO271.out).2.1); rintro e w43 ⟨v277, rfl, ho0, hb⟩; refine ⟨_, rfl, ?_⟩; have HO278 := Aside0.mk (Kd.R_lower ho0 (below_size (bW HB))); replace HO_9 := uR HO_9 hb; replace HO271 := uR HO271 hb; replace HB := uB HB hb; (try clear hb); (try clear hk); (try clear ho0); obtain ⟨Ao44, co44, eo44⟩ := Kd.R_slice HO278.out; subst eo44) | ((with_reducible refine gC 76 ?_); refine lA (some 70) Try.func76 (spec_l20Score.calls k3 _ _ l0 _ _ t276 t279 _ ?side1 ?side2 ?side3 ?side4 A36.out) ?_; (case side1 => repeat (first | exact (Kd.C_below HR0.out HB.out) | (with_reducible refine Kd.C_alloc ?_ _) | (with_reducible refine Kd.C_drewN ?_ _) | (with_reducible refine Kd.C_drew ?_))); (case side2 => exact HC0.out); (case side3 => repeat (first | exact (Kd.R_reads' HO278.out).2.2 | (with_reducible refine Kd.C_alloc ?_ _) | (with_reducible refine Kd.C_drewN ?_ _) | (with_reducible refine Kd.C_drew ?_))); (case side4 => exact (Kd.R_reads' HO278.out).2.1); intro w45 hb; replace HO_9 := uR HO_9 hb; replace HO271 := uR HO271 hb; replace HO278 := uR HO278 hb; replace HB := uB HB hb; (try clear hb); (try clear hk)))
                go_roundg k3
                case measure => have := HJ3.out; have := HK2.out; have := HK3.out; omega
                case rel => exact ⟨(y275), (t279), (wrap64 (x12_3 + 1)), rB, rB, H', ⟨by have := HJ3.out; have := HK2.out; have := HK3.out; omega⟩, ⟨by (with_reducible repeat (first | apply Kd.R_alloc | apply Kd.R_drewN | apply Kd.R_drew)); exact Kd.R_mono HO271.out (fun _ hk => trivial)⟩, (aB HB)⟩
               ·have H' := Aside0.mk H
                clear H
                go_wp2_with (first | ((with_reducible refine gate_callee (f := 78) rfl ?_); refine goesL_ (some 51) rfl rfl Try.func78 (by kernel_rfl) rfl #[.slice A2 l2.length c2] rfl argsB ?_; (with_reducible refine (spec_l1Own.calls _ _ l2 t269 _ ?side1 ?side2 A27.out).mono ?_); (case side1 => repeat (first | exact (Kd.C_below HR2.out HB.out) | (with_reducible refine Kd.C_alloc ?_ _) | (with_reducible refine Kd.C_drewN ?_ _) | (with_reducible refine Kd.C_drew ?_))); (case side2 => exact HC2.out); rintro e w46 ⟨v270, rfl, ho0, hb⟩; refine ⟨_, rfl, ?_⟩; have HO271 := Aside0.mk (Kd.R_lower (Kd.R_new' ho0 (Kd.R_lt (upR HO_9.out))) (below_size (bW HB))); replace HO_9 := Aside0.mk (Kd.R_elder' (upR HO_9.out) (Kd.R_base ho0) hb); replace HB := uB HB hb; (try clear hb); (try clear hk); (try clear ho0); have p272 : 0 ≤ (x12_3 : Int) := of_decide_eq_true asmB; have q272 : x12_3 < (l2.length : Int) := of_decide_eq_true asmB; obtain ⟨ad272, e272, hx272_0⟩ := Kd.at_int HR2.out x12_3 p272 q272; cases e272; replace hx272_0 := bx HB.out hx272_0; replace p272 := eq_true p272; replace q272 := eq_true q272; have p31 : 0 ≤ (x11_2 : Int) := of_decide_eq_true asmB; have q31 : (x11_2 : Int) < ((t269.length : Int) : Int) := of_decide_eq_true asmB; obtain ⟨go31, co31, eo31, gb31, gl31, cl31, HG31⟩ := Kd.R_form HO271.out (by omega); (first | cases eo31 | (injection eo31 with ea_ en_ ec_; (first | subst ea_ | (injection ea_ with ea_; subst ea_)); subst ec_; clear en_)); have GB31 := Aside0.mk gb31; have GG31 := Aside0.mk HG31; clear gb31 gl31 HG31; obtain ⟨hx31_0, hf31_0⟩ := Kd.R_celln 0 HO271.out (x11_2 : Int) p31 q31; replace p31 := eq_true p31; replace q31 := eq_true q31; have n_ := Aside0.mk (Kd.R_mono (ok' := (fun k_ => some k_ ≠ (u9 : Value).ownBlock)) HO271.out (fun k_ hk => hk.2)); clear HO271; have HO271 := n_; clear n_; obtain ⟨hy47_, hz47_⟩ := Kd.R_celln 0 HO271.out (x11_2 : Int) (of_decide_eq_true asmB) (of_decide_eq_true asmB); have HP47 := Kd.R_putg HO271.out (x11_2 : Int) (rd l2 x12_3)) | ((with_reducible refine gate_store (t := 3) (p := 58) rfl ?_); refine store_event (t := 3) (p := 58) (v := ?vo_w48) (w1 := (w46.setCell ⟨go31, (x11_2 : Int).toNat, none⟩ (.int .i64 (rd l2 x12_3)))) ?hg ?ho ?hn ?hr ?_; (case ho => rfl); (case hg => rfl); (case hn => rfl); (case hr => first | (go_simp; done) | (go_simp; rfl)); intro w48 hw; have hg : w46.grownBy w48 (some go31) := (by rw [hw]; exact HP47.2); have hp_ : Kd.R (Kd.int .i64) 3 w48 w.heap.size (fun k_ => some k_ ≠ (u9 : Value).ownBlock) (.slice (some ⟨go31, 0, none⟩) t269.length co31) y273 := (by rw [hw, Ny273.out]; exact HP47.1); clear HP47; replace HO_9 := Aside0.mk (Kd.R_after (v := (.slice (some ⟨go31, 0, none⟩) t269.length co31)) (v1 := (.slice (some ⟨go31, 0, none⟩) t269.length co31)) (ok := (fun _ => True)) (upR HO_9.out) hg (.inl rfl)); replace HO271 := Aside0.mk (hp_); replace HB := Aside0.mk ((by rw [hw]; exact below_set (HB.out) GB31.out : Below w.heap.size w w48)); clear hg hw hp_; have p274 : 0 ≤ (x11_2 : Int) := of_decide_eq_true asmB; have q274 : x11_2 < (l2.length : Int) := of_decide_eq_true asmB; obtain ⟨ad274, e274, hx274_0⟩ := Kd.at_int HR2.out x11_2 p274 q274; obtain rfl : ad272 = ad274 := (by injection e274); replace hx274_0 := bx HB.out hx274_0; replace p274 := eq_true p274; replace q274 := eq_true q274; have p34 : 0 ≤ (x12_3 : Int) := of_decide_eq_true asmB; have q34 : (x12_3 : Int) < ((t269.length : Int) : Int) := of_decide_eq_true asmB; obtain ⟨hx34_0, hf34_0⟩ := Kd.R_celln 0 HO271.out (x12_3 : Int) p34 q34; replace p34 := eq_true p34; replace q34 := eq_true q34; obtain ⟨hy49_, hz49_⟩ := Kd.R_celln 0 HO271.out (x12_3 : Int) (of_decide_eq_true asmB) (of_decide_eq_true asmB); have HP49 := Kd.R_putg HO271.out (x12_3 : Int) (rd l2 x11_2)) | ((with_reducible refine gate_store (t := 3) (p := 65) rfl ?_); refine store_event (t := 3) (p := 65) (v := ?vo_w50) (w1 := (w48.setCell ⟨go31, (x12_3 : Int).toNat, none⟩ (.int .i64 (rd l2 x11_2)))) ?hg ?ho ?hn ?hr ?_; (case ho => rfl); (case hg => rfl); (case hn => rfl); (case hr => first | (go_simp; done) | (go_simp; rfl)); intro w50 hw; have hg : w48.grownBy w50 (some go31) := (by rw [hw]; exact HP49.2); have hp_ : Kd.R (Kd.int .i64) 3 w50 w.heap.size (fun k_ => some k_ ≠ (u9 : Value).ownBlock) (.slice (some ⟨go31, 0, none⟩) t269.length co31) y275 := (by rw [hw, Ny275.out]; exact HP49.1); clear HP49; replace HO_9 := Aside0.mk (Kd.R_after (v := (.slice (some ⟨go31, 0, none⟩) t269.length co31)) (v1 := (.slice (some ⟨go31, 0, none⟩) t269.length co31)) (ok := (fun _ => True)) (upR HO_9.out) hg (.inl rfl)); replace HO271 := Aside0.mk (hp_); replace HB := Aside0.mk ((by rw [hw]; exact below_set (HB.out) GB31.out : Below w.heap.size w w50)); clear hg hw hp_) | ((with_reducible refine gate_callee (f := 71) rfl ?_); refine goesL_ (some 69) rfl rfl Try.func71 (by kernel_rfl) rfl #[.slice A1 l1.length c1, .slice (some ⟨go31, 0, none⟩) y275.length co31] rfl (by (try simp only [List.map_toArray, List.map_cons, List.map_nil]); first | done | (rw [show y275.length = t269.length from (Kd.R_reads' HO271.out).1.symm] <;> rfl) | rfl | (simp only [List.length_drop, List.length_take]; rfl)) ?_; (with_reducible refine (spec_l20Rename.calls _ _ l1 _ _ y275 t276 _ ?side1 ?side2 ?side3 ?side4 A35.out).mono ?_); (case side1 => repeat (first | exact (Kd.C_below HR1.out HB.out) | (with_reducible refine Kd.C_alloc ?_ _) | (with_reducible refine Kd.C_drewN ?_ _) | (with_reducible refine Kd.C_drew ?_))); (case side2 => exact HC1.out); (case side3 => repeat (first | exact (Kd.R_reads' HO271.out).2.2 | (with_reducible refine Kd.C_alloc ?_ _) | (with_reducible refine Kd.C_drewN ?_ _) | (with_reducible refine Kd.C_drew ?_))); (case side4 => rw [show y275.length = t269.length from (Kd.R_reads' HO271.out).1.symm]; exact (Kd.R_reads' HO271.out).2.1); rintro e w51 ⟨v277, rfl, ho0, hb⟩; refine ⟨_, rfl, ?_⟩; have HO278 := Aside0.mk (Kd.R_lower ho0 (below_size (bW HB))); replace HO_9 := uR HO_9 hb; replace HO271 := uR HO271 hb; replace HB := uB HB hb; (try clear hb); (try clear hk); (try clear ho0); obtain ⟨Ao52, co52, eo52⟩ := Kd.R_slice HO278.out; subst eo52) | ((with_reducible refine gC 76 ?_); refine lA (some 70) Try.func76 (spec_l20Score.calls k3 _ _ l0 _ _ t276 t279 _ ?side1 ?side2 ?side3 ?side4 A36.out) ?_; (case side1 => repeat (first | exact (Kd.C_below HR0.out HB.out) | (with_reducible refine Kd.C_alloc ?_ _) | (with_reducible refine Kd.C_drewN ?_ _) | (with_reducible refine Kd.C_drew ?_))); (case side2 => exact HC0.out); (case side3 => repeat (first | exact (Kd.R_reads' HO278.out).2.2 | (with_reducible refine Kd.C_alloc ?_ _) | (with_reducible refine Kd.C_drewN ?_ _) | (with_reducible refine Kd.C_drew ?_))); (case side4 => exact (Kd.R_reads' HO278.out).2.1); intro w53 hb; replace HO_9 := uR HO_9 hb; replace HO271 := uR HO271 hb; replace HO278 := uR HO278 hb; replace HB := uB HB hb; (try clear hb); (try clear hk)))
                go_roundg k3
                case measure => have := HJ3.out; have := HK2.out; have := HK3.out; omega
                case rel => exact ⟨(x9_3), (x10_3), (wrap64 (x12_3 + 1)), rB, rB, H', ⟨by have := HJ3.out; have := HK2.out; have := HK3.out; omega⟩, ⟨by (with_reducible repeat (first | apply Kd.R_alloc | apply Kd.R_drewN | apply Kd.R_drew)); exact Kd.R_mono HO_9.out (fun _ hk => trivial)⟩, (aB HB)⟩
              ·rw [if_neg c33] at H
               exact absurd H (by simp)
             ·rw [if_neg c32] at H
              exact absurd H (by simp)
            ·rw [if_neg c30] at H
             exact absurd H (by simp)
           ·rw [if_neg c29] at H
            exact absurd H (by simp)
          ·rw [if_neg c28] at H
           exact absurd H (by simp)
         ·have H' := Aside0.mk H
          clear H
          go_wp2
          go_roundg k3
          case measure => have := HJ3.out; have := HK2.out; have := HK3.out; omega
          case rel => exact ⟨(x9_3), (x10_3), (wrap64 (x11_2 + 1)), rB, rB, H', ⟨by have := HJ3.out; have := HK2.out; have := HK3.out; omega⟩, ⟨upR HO_9.out⟩, (aB HB)⟩
      ·simp only [Option.some.injEq, Prod.mk.injEq] at H
       obtain ⟨rfl, rfl, rfl⟩ := H
       go_wp2
       go_ret3
       exact ⟨_, eB, upR HO_9.out, (bW HB)⟩

/-! ### slices_Clone_int_int: function 79 -/
def slices_Clone_int_int.f (l0 : List Int) : Option (List Int) := if l0.length * 8 ≤ 140737488351232 then some l0 else none
theorem infoC3 : (Try.prog.info? 3).map (fun i => (i.zero, i.size, i.bytes)) = some (some (.int .i64 0), 1, 8) := by kernel_rfl
set_option maxHeartbeats 4000000 in
set_option maxRecDepth 100000 in
theorem slices_Clone_int_int.calls (A0 : Option Addr) (c0 : Nat) (l0 : List Int) (r : List Int) (w : World) (hr0 : Kd.C (Kd.int .i64) w A0 l0.length l0) (hc0 : l0.length ≤ c0) (h : slices_Clone_int_int.f l0 = some r) :
  Calls Try.prog 79 #[.slice A0 l0.length c0] w fun e w' => ∃ v0_ : Value, e = .returned (v0_) ∧ Kd.R (Kd.int .i64) 3 w' w.heap.size (fun _ => True) v0_ r ∧ Below w.heap.size w w' := by
 have q22 : ∀ (w : World) (a : Option Addr) (n c n' c' : Nat), (binOp .eql 22 (.slice a n c) (.slice none n' c')).run Try.prog w = .ok (.bool a.isNone) w := fun w a n c n' c' => Go.Lib.run_eql_slice_nil w _ _ a n c n' c' Try.underlying22
 unfold slices_Clone_int_int.f at h
 split at h
 ·rename_i hb
  obtain rfl := Option.some.inj h
  cases A0 with
  | none =>
   have h0 : l0 = [] := by
    rcases Nat.eq_zero_or_pos l0.length with h0 | h0
    ·exact List.eq_nil_of_length_eq_zero h0
    ·obtain ⟨ad, he, _⟩ := hr0.2.2 h0
     cases he
   subst h0
   go_enter Try.func79, Try.ntmps79
   go_wp2
   go_ret
   exact ⟨_, rfl, Kd.R_nil _ _ _ _ _, Below.refl _ _⟩
  | some ad =>
   have HR := Aside0.mk hr0
   clear hr0
   go_enter Try.func79, Try.ntmps79
   go_wp2_with (first | ((with_reducible refine gate_dst (N := 5) rfl ?_); refine Kd.R_lit (Kd.int .i64) _ 3 ?hg (N := 5) ?hd (xs := ([] : List Int)) (inner := []) (ok := fun _ => True) (okp := fun _ => True) ?hr ?hp (fun _ hk => hk) trivial (Below.refl _ _) (Nat.le_refl _) (by simp) ?_; (case hd => rfl); (case hg => rfl); (case hr => first | (go_simp; done) | (go_simp; rfl)); (case hp => exact (Reps.none _ _)); intro v1 w1 ho hb1 _ _; have HO := Aside0.mk ho; have HB := Aside0.mk hb1; clear ho hb1) | ((with_reducible refine gate_builtin (b := .append) (xs := #[.tmp 5, .tmp 6]) rfl ?_); at_builtin; refine Kd.R_append_rows (Kd.int .i64) (w0 := w) w.heap.size rfl (.tmp 5) (.tmp 6) 22 3 (.int .i64 0) 8 rfl Try.underlying22 infoC3 rfl (by decide) (by omega) _ ([] : List Int) l0 _ _ _ (fun _ => True) (fun _ => False) rfl rfl ?aO ?aR (fun _ _ h => h) (fun _ h => h.elim) ?aF ?aB ?aS ?aL ?_; (case aO => exact HO.out); (case aR => exact Kd.C_below HR.out HB.out); (case aF => exact fun _ _ => trivial); (case aB => exact HB.out); (case aS => exact below_size HB.out); (case aL => simp only [List.length_nil]; omega); intro v2 w2 ho2 hb2 _ _; have HO2 := Aside0.mk ho2; have HB2 := Aside0.mk hb2; clear ho2 hb2))
   go_ret
   refine ⟨_, rfl, ?_, HB2.out⟩
   have := HO2.out
   rwa [List.nil_append] at this
 ·cases h


end Go.Proofs.Ytfaojmabalplfaa.QFnRenamings
