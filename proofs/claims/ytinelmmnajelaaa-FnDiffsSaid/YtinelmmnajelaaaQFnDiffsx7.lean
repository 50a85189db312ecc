/- Contracts of Go functions that FnDiffs reaches: the call computes what the plain function says. No condition. -/
import Derived.Test.YtinelmmnajelaaaQFnDiffsx0
import Derived.Test.YtinelmmnajelaaaQFnDiffsx1
import Derived.Test.YtinelmmnajelaaaQFnDiffsx6
namespace Go.Proofs.Ytinelmmnajelaaa.QFnDiffs
open Go.RowKit Go.Proofs.YtinelmmnajelaaaW.PrintWords Go.Proofs.YtinelmmnajelaaaW.PrintLast Go.Proofs.YtinelmmnajelaaaW.PrintMore
attribute [local go_sem] max2_int min2_int max_two min_two max_three min_three max_four min_four   -- for this text's walks alone
set_option linter.unusedVariables false
set_option linter.unusedSimpArgs false

attribute [local go_sem high] eqA26
/-! ### impl_DiffLegs: function 20 -/
mutual
def impl_DiffLegs.j0 : Nat → List (S26) → List (S26) → Bool → Option ((List (S28)) × Bool)
 | 0, _, _, _ => none
 | k + 1, x0, x1, x18 => if x18 = true then (some (([] : List (S28)), false)) else (impl_DiffLegs.l0 k x0 x1 ([] : List (S28)) (mn (x0.length : Int) (x1.length : Int)) (mn (x0.length : Int) (x1.length : Int)) 0)
def impl_DiffLegs.l0 : Nat → List (S26) → List (S26) → List (S28) → Int → Int → Int → Option ((List (S28)) × Bool)
 | 0, _, _, _, _, _, _ => none
 | k + 1, x0, x1, x6, x7, x24, x25 => if x25 < x24 then (if 0 ≤ x25 then (if x25 < (x0.length : Int) then (if x25 < (x1.length : Int) then (if (!(((rd_T26 x0 x25).f0) == ((rd_T26 x1 x25).f0)) || (!(((rd_T26 x0 x25).f1) == ((rd_T26 x1 x25).f1)) || (!(((rd_T26 x0 x25).f2) == ((rd_T26 x1 x25).f2)) || (!(((rd_T26 x0 x25).f3) == ((rd_T26 x1 x25).f3)) || (!(((rd_T26 x0 x25).f4) == ((rd_T26 x1 x25).f4))))))) = true then (if x6.length < 1466015503701 then (impl_DiffLegs.l0 k x0 x1 (x6 ++ [(⟨3, x25, (⟨(rd_T26 x0 x25).f0, (rd_T26 x0 x25).f1, (rd_T26 x0 x25).f2, (rd_T26 x0 x25).f3, (rd_T26 x0 x25).f4⟩ : S26), (⟨(rd_T26 x1 x25).f0, (rd_T26 x1 x25).f1, (rd_T26 x1 x25).f2, (rd_T26 x1 x25).f3, (rd_T26 x1 x25).f4⟩ : S26)⟩ : S28)]) x7 x24 (wrap64 (x25 + 1))) else (none)) else (impl_DiffLegs.l0 k x0 x1 x6 x7 x24 (wrap64 (x25 + 1)))) else (none)) else (none)) else (none)) else (impl_DiffLegs.l1 k x0 x1 x6 x7 (wrap64 ((x0.length : Int) - 1)))
def impl_DiffLegs.l1 : Nat → List (S26) → List (S26) → List (S28) → Int → Int → Option ((List (S28)) × Bool)
 | 0, _, _, _, _, _ => none
 | k + 1, x0, x1, x6, x7, x9 => if x9 ≥ x7 then (if 0 ≤ x9 then (if x9 < (x0.length : Int) then (if x6.length < 1466015503701 then (impl_DiffLegs.l1 k x0 x1 (x6 ++ [(⟨2, x9, (⟨(rd_T26 x0 x9).f0, (rd_T26 x0 x9).f1, (rd_T26 x0 x9).f2, (rd_T26 x0 x9).f3, (rd_T26 x0 x9).f4⟩ : S26), (⟨0, 0, 0, 0, 0⟩ : S26)⟩ : S28)]) x7 (wrap64 (x9 - 1))) else (none)) else (none)) else (none)) else (impl_DiffLegs.l2 k x1 x6 x7)
def impl_DiffLegs.l2 : Nat → List (S26) → List (S28) → Int → Option ((List (S28)) × Bool)
 | 0, _, _, _ => none
 | k + 1, x1, x6, x10 => if x10 < (x1.length : Int) then (if 0 ≤ x10 then (if x6.length < 1466015503701 then (impl_DiffLegs.l2 k x1 (x6 ++ [(⟨1, x10, (⟨0, 0, 0, 0, 0⟩ : S26), (⟨(rd_T26 x1 x10).f0, (rd_T26 x1 x10).f1, (rd_T26 x1 x10).f2, (rd_T26 x1 x10).f3, (rd_T26 x1 x10).f4⟩ : S26)⟩ : S28)]) (wrap64 (x10 + 1))) else (none)) else (none)) else (if (x6.length : Int) > 10 then (some (([] : List (S28)), false)) else (some (x6, true)))
end
def impl_DiffLegs.f (k : Nat) (l0 : List (S26)) (l1 : List (S26)) : Option ((List (S28)) × Bool) := (impl_areLegs.f k l0).bind fun t145 => (if t145 = true then ((impl_areLegs.f k l1).bind fun t146 => (impl_DiffLegs.j0 k l0 l1 (!t146))) else (impl_DiffLegs.j0 k l0 l1 true))
theorem impl_DiffLegs.mono_l : ∀ k, (∀ y0 y1 y2, LeO (impl_DiffLegs.j0 k y0 y1 y2) (impl_DiffLegs.j0 (k + 1) y0 y1 y2)) ∧ (∀ y0 y1 y2 y3 y4 y5, LeO (impl_DiffLegs.l0 k y0 y1 y2 y3 y4 y5) (impl_DiffLegs.l0 (k + 1) y0 y1 y2 y3 y4 y5)) ∧ (∀ y0 y1 y2 y3 y4, LeO (impl_DiffLegs.l1 k y0 y1 y2 y3 y4) (impl_DiffLegs.l1 (k + 1) y0 y1 y2 y3 y4)) ∧ (∀ y0 y1 y2, LeO (impl_DiffLegs.l2 k y0 y1 y2) (impl_DiffLegs.l2 (k + 1) y0 y1 y2))
 | 0 => ⟨fun _ _ _ r h => by simp [impl_DiffLegs.j0] at h, fun _ _ _ _ _ _ r h => by simp [impl_DiffLegs.l0] at h, fun _ _ _ _ _ r h => by simp [impl_DiffLegs.l1] at h, fun _ _ _ r h => by simp [impl_DiffLegs.l2] at h⟩
 | k + 1 => by
  obtain ⟨ih0, ih1, ih2, ih3⟩ := impl_DiffLegs.mono_l k
  refine ⟨?_, ?_, ?_, ?_⟩
  ·intro y0 y1 y2
   unfold impl_DiffLegs.j0
   repeat' with_reducible first | apply ih0 | apply ih1 | apply ih2 | apply ih3 | apply impl_areLegs.mono | exact LeO.refl _ | exact LeO.none _ | refine LeO.ite ?_ ?_ | refine LeO.bind ?_ (fun _ => ?_)
  ·intro y0 y1 y2 y3 y4 y5
   unfold impl_DiffLegs.l0
   repeat' with_reducible first | apply ih0 | apply ih1 | apply ih2 | apply ih3 | apply impl_areLegs.mono | exact LeO.refl _ | exact LeO.none _ | refine LeO.ite ?_ ?_ | refine LeO.bind ?_ (fun _ => ?_)
  ·intro y0 y1 y2 y3 y4
   unfold impl_DiffLegs.l1
   repeat' with_reducible first | apply ih0 | apply ih1 | apply ih2 | apply ih3 | apply impl_areLegs.mono | exact LeO.refl _ | exact LeO.none _ | refine LeO.ite ?_ ?_ | refine LeO.bind ?_ (fun _ => ?_)
  ·intro y0 y1 y2
   unfold impl_DiffLegs.l2
   repeat' with_reducible first | apply ih0 | apply ih1 | apply ih2 | apply ih3 | apply impl_areLegs.mono | exact LeO.refl _ | exact LeO.none _ | refine LeO.ite ?_ ?_ | refine LeO.bind ?_ (fun _ => ?_)
theorem impl_DiffLegs.mono : ∀ a0 a1 k, LeO (impl_DiffLegs.f k a0 a1) (impl_DiffLegs.f (k + 1) a0 a1) := by
 intro a0 a1 k
 obtain ⟨ih0, ih1, ih2, ih3⟩ := impl_DiffLegs.mono_l k
 unfold impl_DiffLegs.f
 repeat' with_reducible first | apply ih0 | apply ih1 | apply ih2 | apply ih3 | apply impl_areLegs.mono | exact LeO.refl _ | exact LeO.none _ | refine LeO.ite ?_ ?_ | refine LeO.bind ?_ (fun _ => ?_)
def impl_DiffLegs.T8 : Bool × List (List Nat × List Nat) := (true, [([], []), ([], []), ([0, 1], [0, 1]), ([2], [2]), ([], []), ([], []), ([4, 5], [4, 5]), ([6], [6]), ([3, 7], [3, 7])])
def impl_DiffLegs.B8 : List Nat := [0, 0, 3, 7, 0, 0, 48, 112, 255]
theorem impl_DiffLegs.tab8 : rtab .any (opsOf Try.f20 8) = impl_DiffLegs.T8 := by kernel_rfl
theorem impl_DiffLegs.bits8 : waitsOk impl_DiffLegs.T8.2 impl_DiffLegs.B8 = true := by kernel_rfl
def impl_DiffLegs.T9 : Bool × List (List Nat × List Nat) := (true, [([], []), ([], []), ([], []), ([], []), ([2, 3], [2, 3]), ([4], [4]), ([], []), ([], []), ([6, 7], [6, 7]), ([8], [8]), ([1, 5, 9], [1, 5, 9]), ([10], [10]), ([0, 11], [0, 11]), ([12, 12, 0, 1, 2, 3, 4, 5, 6, 7, 8, 9, 10, 11, 12], [0, 12])])
def impl_DiffLegs.B9 : List Nat := [0, 0, 0, 0, 12, 28, 0, 0, 192, 448, 1022, 2046, 4095, 8191]
theorem impl_DiffLegs.tab9 : rtab .any (opsOf Try.f20 9) = impl_DiffLegs.T9 := by kernel_rfl
theorem impl_DiffLegs.bits9 : waitsOk impl_DiffLegs.T9.2 impl_DiffLegs.B9 = true := by kernel_rfl
set_option maxHeartbeats 8000000 in
set_option maxRecDepth 100000 in
theorem impl_DiffLegs.calls (k : Nat) (A0 : Option Addr) (c0 : Nat) (l0 : List (S26)) (A1 : Option Addr) (c1 : Nat) (l1 : List (S26)) (r1 : List (S28)) (r2 : Bool) (w : World) (hr0 : Kd.C k26 w A0 l0.length l0) (hc0 : l0.length ≤ c0) (hr1 : Kd.C k26 w A1 l1.length l1) (hc1 : l1.length ≤ c1) (h : impl_DiffLegs.f k l0 l1 = some (r1, r2)) :
  Calls Try.prog 20 #[.slice A0 l0.length c0, .slice A1 l1.length c1] w fun e w' => ∃ v0_ : Value, e = .returned (.tuple #[v0_, .bool r2]) ∧ Kd.R k28 28 w' w.heap.size (fun _ => True) v0_ r1 ∧ Below w.heap.size w w' := by
 have hu26 := Try.underlying26
 have hu28 := Try.underlying28
 have HR0 := Aside0.mk hr0
 have HC0 := Aside0.mk hc0
 clear hr0 hc0
 have HR1 := Aside0.mk hr1
 have HC1 := Aside0.mk hc1
 clear hr1 hc1
 have HB := Aside0.mk (Below.refl w.heap.size w)
 have H := h
 clear h
 unfold impl_DiffLegs.f at H
 have HC3 := Aside0.mk H
 clear H
 go_enter Try.func20, Try.ntmps20
 go_upto_region 1 with (fail)
 go_cut [18] (fun v18 wc => ∃ (kq : Nat) (x18_2 : Bool), v18 = .bool x18_2 ∧ Aside0 (impl_DiffLegs.j0 kq l0 l1 x18_2 = some (r1, r2)) ∧ Aside0 (kq ≤ k) ∧ Aside0 (Below w.heap.size w wc))
 case first =>
  have H := HC3.out
  clear HC3
  replace H := bA H
  obtain ⟨t145, A4, H⟩ := H
  rcases Bool.eq_false_or_eq_true t145 with rfl | rfl
  ·replace H := iT rfl H
   replace H := bA H
   obtain ⟨t146, A6, H⟩ := H
   have H' := Aside0.mk H
   clear H
   go_wp2_with (first | ((with_reducible refine gC 65 ?_); refine lA (some 12) Try.func65 (impl_areLegs.calls k _ _ l0 true _ ?side1 ?side2 A4.out) ?_; (case side1 => repeat (first | exact (Kd.C_below HR0.out HB.out) | (with_reducible refine Kd.C_alloc ?_ _) | (with_reducible refine Kd.C_drewN ?_ _) | (with_reducible refine Kd.C_drew ?_))); (case side2 => exact HC0.out); intro w7 hb; replace HB := uB HB hb; (try clear hb); (try clear hk)) | (go_at_call 65; (with_reducible refine (impl_areLegs.calls k _ _ l1 t146 _ ?side1 ?side2 A6.out).mono ?_); (case side1 => repeat (first | exact (Kd.C_below HR1.out HB.out) | (with_reducible refine Kd.C_alloc ?_ _) | (with_reducible refine Kd.C_drewN ?_ _) | (with_reducible refine Kd.C_drew ?_))); (case side2 => exact HC1.out); rintro e w8 ⟨rfl, hb⟩; replace HB := uB HB hb; (try clear hb); (try clear hk)))
   go_meet
   case rel => exact ⟨_, (!t146), rB, H', leB, (aB HB)⟩
  ·replace H := iF (by decide) H
   have H' := Aside0.mk H
   clear H
   go_wp2_with (first | ((with_reducible refine gC 65 ?_); refine lA (some 12) Try.func65 (impl_areLegs.calls k _ _ l0 false _ ?side1 ?side2 A4.out) ?_; (case side1 => repeat (first | exact (Kd.C_below HR0.out HB.out) | (with_reducible refine Kd.C_alloc ?_ _) | (with_reducible refine Kd.C_drewN ?_ _) | (with_reducible refine Kd.C_drew ?_))); (case side2 => exact HC0.out); intro w9 hb; replace HB := uB HB hb; (try clear hb); (try clear hk)))
   go_meet
   case rel => exact ⟨_, (true), rB, H', leB, (aB HB)⟩
 case rest =>
  clear HC3
  try clear c1
  obtain ⟨kq, x18_2, rfl, HA, HJ2, HB⟩ := hcut
  cases kq with
  | zero => exact absurd HA.out (by simp [impl_DiffLegs.j0])
  | succ kj2 =>
   have H := HA.out
   clear HA
   simp only [impl_DiffLegs.j0] at H
   rcases Bool.eq_false_or_eq_true x18_2 with rfl | rfl
   ·replace H := iT rfl H
    simp only [Option.some.injEq, Prod.mk.injEq] at H
    obtain ⟨rfl, rfl⟩ := H
    go_wp2
    go_ret2
    exact ⟨_, eB, by first | exact Kd.R_nil _ _ _ _ _ | exact Kd.N_nil _ _ _ _ _ | exact Kd.V_nil _ _ _ _ _ | exact Kd.Q_nil _ _ _ _ _ | exact Kd.S_nil _ _ _ _ _, (bW HB)⟩
   ·replace H := iF (by decide) H
    obtain ⟨ji11, hji11⟩ : ∃ j_ : Int, (mn (l0.length : Int) (l1.length : Int)) = j_ := ⟨_, rfl⟩
    replace H : (impl_DiffLegs.l0 kj2 l0 l1 ([] : List (S28)) ji11 ji11 0) = some (r1, r2) := by first | (rw [hji11] at H; exact H) | (simp only [hji11] at H ⊢; exact H)
    have hji11_ : (if (l1.length : Int) < (l0.length : Int) then (l1.length : Int) else (l0.length : Int)) = ji11 := hji11
    have hji11n : (if l1.length < l0.length then (l1.length : Int) else (l0.length : Int)) = ji11 := by rw [← hji11_]; simp only [Int.ofNat_lt]
    have H' := Aside0.mk H
    clear H
    go_wp2
    go_loopg [6, 25] kj2 (fun kq v6 v25 w' => ∃ (x6_2 : List (S28)) (x25_2 : Int), v25 = .int .i64 x25_2 ∧ Aside0 (impl_DiffLegs.l0 kq l0 l1 x6_2 ji11 ji11 x25_2 = some (r1, r2)) ∧ Aside0 (kq ≤ kj2) ∧ Aside0 (Kd.R k28 28 w' w.heap.size (fun _ => True) v6 x6_2) ∧ Aside0 (Below w.heap.size w w'))
    case atStart => exact ⟨(([] : List (S28))), (0), rB, H', ⟨Nat.le_refl _⟩, ⟨by first | exact Kd.R_nil _ _ _ _ _ | exact Kd.N_nil _ _ _ _ _ | exact Kd.V_nil _ _ _ _ _ | exact Kd.Q_nil _ _ _ _ _ | exact Kd.S_nil _ _ _ _ _⟩, (aB HB)⟩
    case round =>
     clear H'
     try clear c1
     obtain ⟨x6_2, x25_2, rfl, HA, HK2, HO_6, HB⟩ := hrel
     cases gk with
     | zero => exact absurd HA.out (by simp [impl_DiffLegs.l0])
     | succ k2 =>
      have H := HA.out
      clear HA
      simp only [impl_DiffLegs.l0] at H
      replace H := ifD H
      rcases H with ⟨H, -, c12b0⟩ | ⟨H, -, c12b0⟩
      ·by_cases c13 : 0 ≤ x25_2
       ·rw [if_pos c13] at H
        have c13b0 : decide (0 ≤ x25_2) = true := decide_eq_true c13
        clear c13
        by_cases c14 : x25_2 < (l0.length : Int)
        ·rw [if_pos c14] at H
         have c14b0 : decide (x25_2 < (l0.length : Int)) = true := decide_eq_true c14
         clear c14
         by_cases c15 : x25_2 < (l1.length : Int)
         ·rw [if_pos c15] at H
          have c15b0 : decide (x25_2 < (l1.length : Int)) = true := decide_eq_true c15
          clear c15
          by_cases c16 : (!(((rd_T26 l0 x25_2).f0) == ((rd_T26 l1 x25_2).f0)) || (!(((rd_T26 l0 x25_2).f1) == ((rd_T26 l1 x25_2).f1)) || (!(((rd_T26 l0 x25_2).f2) == ((rd_T26 l1 x25_2).f2)) || (!(((rd_T26 l0 x25_2).f3) == ((rd_T26 l1 x25_2).f3)) || (!(((rd_T26 l0 x25_2).f4) == ((rd_T26 l1 x25_2).f4))))))) = true
          ·rw [if_pos c16] at H
           have c16b0 : (!(((rd_T26 l0 x25_2).f0) == ((rd_T26 l1 x25_2).f0)) || (!(((rd_T26 l0 x25_2).f1) == ((rd_T26 l1 x25_2).f1)) || (!(((rd_T26 l0 x25_2).f2) == ((rd_T26 l1 x25_2).f2)) || (!(((rd_T26 l0 x25_2).f3) == ((rd_T26 l1 x25_2).f3)) || (!(((rd_T26 l0 x25_2).f4) == ((rd_T26 l1 x25_2).f4))))))) = true := c16
           clear c16
           by_cases c17 : x6_2.length < 1466015503701
           ·rw [if_pos c17] at H
            have LMc17 := Aside0.mk c17
            clear c17
            obtain ⟨y151, hy151⟩ : ∃ y_ : List (S28), y_ = (x6_2 ++ [(⟨3, x25_2, (⟨(rd_T26 l0 x25_2).f0, (rd_T26 l0 x25_2).f1, (rd_T26 l0 x25_2).f2, (rd_T26 l0 x25_2).f3, (rd_T26 l0 x25_2).f4⟩ : S26), (⟨(rd_T26 l1 x25_2).f0, (rd_T26 l1 x25_2).f1, (rd_T26 l1 x25_2).f2, (rd_T26 l1 x25_2).f3, (rd_T26 l1 x25_2).f4⟩ : S26)⟩ : S28)]) := ⟨_, rfl⟩
            replace H : (impl_DiffLegs.l0 k2 l0 l1 y151 ji11 ji11 (wrap64 (x25_2 + 1))) = some (r1, r2) := by first | (rw [hy151]; with_reducible exact H) | (have H2_ := (Option.bind_some _ _).symm.trans H; rw [hy151]; with_reducible exact H2_) | (have H2_ := (Option.bind_some _ _).symm.trans H; with_reducible exact H2_) | with_reducible exact H | (rw [hy151]; exact H) | exact H
            have Ny151 := Aside0.mk hy151
            clear hy151
            have H' := Aside0.mk H
            clear H
            try go_wp2
            replace HO_6 := Aside0.mk (Kd.R_drew HO_6.out)
            replace HB := Aside0.mk (below_drew1 HB.out)
            have p147 : 0 ≤ (x25_2 : Int) := of_decide_eq_true asmB
            have q147 : x25_2 < (l0.length : Int) := of_decide_eq_true asmB
            obtain ⟨ad147, e147, hx147_0, hx147_1, hx147_2, hx147_3, hx147_4⟩ := at_T26 HR0.out x25_2 p147 q147
            have hw147_4 := hx147_4
            have hw147_3 := hx147_3
            have hw147_2 := hx147_2
            have hw147_1 := hx147_1
            have hw147_0 := hx147_0
            cases e147
            replace hx147_0 := bx HB.out hx147_0
            replace hx147_1 := bx HB.out hx147_1
            replace hx147_2 := bx HB.out hx147_2
            replace hx147_3 := bx HB.out hx147_3
            replace hx147_4 := bx HB.out hx147_4
            replace p147 := eq_true p147
            replace q147 := eq_true q147
            have p148 : 0 ≤ (x25_2 : Int) := of_decide_eq_true asmB
            have q148 : x25_2 < (l1.length : Int) := of_decide_eq_true asmB
            obtain ⟨ad148, e148, hx148_0, hx148_1, hx148_2, hx148_3, hx148_4⟩ := at_T26 HR1.out x25_2 p148 q148
            have hw148_4 := hx148_4
            have hw148_3 := hx148_3
            have hw148_2 := hx148_2
            have hw148_1 := hx148_1
            have hw148_0 := hx148_0
            cases e148
            replace hx148_0 := bx HB.out hx148_0
            replace hx148_1 := bx HB.out hx148_1
            replace hx148_2 := bx HB.out hx148_2
            replace hx148_3 := bx HB.out hx148_3
            replace hx148_4 := bx HB.out hx148_4
            replace p148 := eq_true p148
            replace q148 := eq_true q148
            refine sA (n := 9) (S := fun w' => w'.cell? (ad147.add ((x25_2).toNat * 5)) = some (.int .i64 ((rd_T26 l0 x25_2).f0)) ∧ w'.cell? ⟨(ad147.add ((x25_2).toNat * 5)).block, (ad147.add ((x25_2).toNat * 5)).off + 1, none⟩ = some (.int .i64 ((rd_T26 l0 x25_2).f1)) ∧ w'.cell? ⟨(ad147.add ((x25_2).toNat * 5)).block, (ad147.add ((x25_2).toNat * 5)).off + 2, none⟩ = some (.int .i64 ((rd_T26 l0 x25_2).f2)) ∧ w'.cell? ⟨(ad147.add ((x25_2).toNat * 5)).block, (ad147.add ((x25_2).toNat * 5)).off + 3, none⟩ = some (.int .i64 ((rd_T26 l0 x25_2).f3)) ∧ w'.cell? ⟨(ad147.add ((x25_2).toNat * 5)).block, (ad147.add ((x25_2).toNat * 5)).off + 4, none⟩ = some (.int .i64 ((rd_T26 l0 x25_2).f4)) ∧ w'.cell? (ad148.add ((x25_2).toNat * 5)) = some (.int .i64 ((rd_T26 l1 x25_2).f0)) ∧ w'.cell? ⟨(ad148.add ((x25_2).toNat * 5)).block, (ad148.add ((x25_2).toNat * 5)).off + 1, none⟩ = some (.int .i64 ((rd_T26 l1 x25_2).f1)) ∧ w'.cell? ⟨(ad148.add ((x25_2).toNat * 5)).block, (ad148.add ((x25_2).toNat * 5)).off + 2, none⟩ = some (.int .i64 ((rd_T26 l1 x25_2).f2)) ∧ w'.cell? ⟨(ad148.add ((x25_2).toNat * 5)).block, (ad148.add ((x25_2).toNat * 5)).off + 3, none⟩ = some (.int .i64 ((rd_T26 l1 x25_2).f3)) ∧ w'.cell? ⟨(ad148.add ((x25_2).toNat * 5)).block, (ad148.add ((x25_2).toNat * 5)).off + 4, none⟩ = some (.int .i64 ((rd_T26 l1 x25_2).f4))) (ds := []) impl_DiffLegs.tab8 impl_DiffLegs.bits8 #[false, false, false, false, false, false, false, false, false] ⟨(bX HB hw147_0), (bX HB hw147_1), (bX HB hw147_2), (bX HB hw147_3), (bX HB hw147_4), (bX HB hw148_0), (bX HB hw148_1), (bX HB hw148_2), (bX HB hw148_3), (bX HB hw148_4)⟩ fun hHeld HT_ HW_ => ?_
            generalize wr.drew = w18 at HO_6 HB hx147_0 hx147_1 hx147_2 hx147_3 hx147_4 hx148_0 hx148_1 hx148_2 hx148_3 hx148_4 hHeld ⊢
            refine pA 0 28 HT_ ?_
            refine pA 1 29 HT_ ?_
            refine pA 2 30 HT_ ?_
            refine pA 4 32 HT_ ?_
            refine pA 5 33 HT_ ?_
            refine pA 6 34 HT_ ?_
            refine tA 3 31 HT_ HW_ hHeld ?_
            refine tA 7 35 HT_ HW_ hHeld ?_
            refine pA 8 36 HT_ ?_
            refine done_ (done_of HT_.out (by kernel_rfl)) ?_
            try go_wp2
            replace HO_6 := Aside0.mk (Kd.R_drew HO_6.out)
            replace HB := Aside0.mk (below_drew1 HB.out)
            have p149 : 0 ≤ (x25_2 : Int) := of_decide_eq_true asmB
            have q149 : x25_2 < (l0.length : Int) := of_decide_eq_true asmB
            obtain ⟨ad149, e149, hx149_0, hx149_1, hx149_2, hx149_3, hx149_4⟩ := at_T26 HR0.out x25_2 p149 q149
            have hw149_4 := hx149_4
            have hw149_3 := hx149_3
            have hw149_2 := hx149_2
            have hw149_1 := hx149_1
            have hw149_0 := hx149_0
            obtain rfl : ad147 = ad149 := (by injection e149)
            replace hx149_0 := bx HB.out hx149_0
            replace hx149_1 := bx HB.out hx149_1
            replace hx149_2 := bx HB.out hx149_2
            replace hx149_3 := bx HB.out hx149_3
            replace hx149_4 := bx HB.out hx149_4
            replace p149 := eq_true p149
            replace q149 := eq_true q149
            have p150 : 0 ≤ (x25_2 : Int) := of_decide_eq_true asmB
            have q150 : x25_2 < (l1.length : Int) := of_decide_eq_true asmB
            obtain ⟨ad150, e150, hx150_0, hx150_1, hx150_2, hx150_3, hx150_4⟩ := at_T26 HR1.out x25_2 p150 q150
            have hw150_4 := hx150_4
            have hw150_3 := hx150_3
            have hw150_2 := hx150_2
            have hw150_1 := hx150_1
            have hw150_0 := hx150_0
            obtain rfl : ad148 = ad150 := (by injection e150)
            replace hx150_0 := bx HB.out hx150_0
            replace hx150_1 := bx HB.out hx150_1
            replace hx150_2 := bx HB.out hx150_2
            replace hx150_3 := bx HB.out hx150_3
            replace hx150_4 := bx HB.out hx150_4
            replace p150 := eq_true p150
            replace q150 := eq_true q150
            refine sA (n := 14) (S := fun w' => w'.cell? (ad147.add ((x25_2).toNat * 5)) = some (.int .i64 ((rd_T26 l0 x25_2).f0)) ∧ w'.cell? ⟨(ad147.add ((x25_2).toNat * 5)).block, (ad147.add ((x25_2).toNat * 5)).off + 1, none⟩ = some (.int .i64 ((rd_T26 l0 x25_2).f1)) ∧ w'.cell? ⟨(ad147.add ((x25_2).toNat * 5)).block, (ad147.add ((x25_2).toNat * 5)).off + 2, none⟩ = some (.int .i64 ((rd_T26 l0 x25_2).f2)) ∧ w'.cell? ⟨(ad147.add ((x25_2).toNat * 5)).block, (ad147.add ((x25_2).toNat * 5)).off + 3, none⟩ = some (.int .i64 ((rd_T26 l0 x25_2).f3)) ∧ w'.cell? ⟨(ad147.add ((x25_2).toNat * 5)).block, (ad147.add ((x25_2).toNat * 5)).off + 4, none⟩ = some (.int .i64 ((rd_T26 l0 x25_2).f4)) ∧ w'.cell? (ad148.add ((x25_2).toNat * 5)) = some (.int .i64 ((rd_T26 l1 x25_2).f0)) ∧ w'.cell? ⟨(ad148.add ((x25_2).toNat * 5)).block, (ad148.add ((x25_2).toNat * 5)).off + 1, none⟩ = some (.int .i64 ((rd_T26 l1 x25_2).f1)) ∧ w'.cell? ⟨(ad148.add ((x25_2).toNat * 5)).block, (ad148.add ((x25_2).toNat * 5)).off + 2, none⟩ = some (.int .i64 ((rd_T26 l1 x25_2).f2)) ∧ w'.cell? ⟨(ad148.add ((x25_2).toNat * 5)).block, (ad148.add ((x25_2).toNat * 5)).off + 3, none⟩ = some (.int .i64 ((rd_T26 l1 x25_2).f3)) ∧ w'.cell? ⟨(ad148.add ((x25_2).toNat * 5)).block, (ad148.add ((x25_2).toNat * 5)).off + 4, none⟩ = some (.int .i64 ((rd_T26 l1 x25_2).f4))) (ds := []) impl_DiffLegs.tab9 impl_DiffLegs.bits9 #[false, false, false, false, false, false, false, false, false, false, false, false, false, false] ⟨(bX HB hw149_0), (bX HB hw149_1), (bX HB hw149_2), (bX HB hw149_3), (bX HB hw149_4), (bX HB hw150_0), (bX HB hw150_1), (bX HB hw150_2), (bX HB hw150_3), (bX HB hw150_4)⟩ fun hHeld HT_ HW_ => ?_
            generalize w18.drew = w19 at HO_6 HB hx149_0 hx149_1 hx149_2 hx149_3 hx149_4 hx150_0 hx150_1 hx150_2 hx150_3 hx150_4 hHeld ⊢
            refine pA 0 37 HT_ ?_
            refine pA 1 38 HT_ ?_
            refine pA 2 39 HT_ ?_
            refine pA 3 40 HT_ ?_
            refine pA 4 41 HT_ ?_
            refine pA 6 43 HT_ ?_
            refine pA 7 44 HT_ ?_
            refine pA 8 45 HT_ ?_
            refine tA 5 42 HT_ HW_ hHeld ?_
            refine tA 9 46 HT_ HW_ hHeld ?_
            refine pA 10 47 HT_ ?_
            refine oA 11 (some 48) HT_ fun K hK => ?_
            refine value_ (w1 := ?_) (v := ?_) (by rfl) rfl ?_ ?_
            rotate_left 2
            ·go_simp
             constructor
             ·rfl
             ·rfl
            refine hK.out _ _ ⟨(World.cell?_alloc_lt _ _ _ (World.block_lt_of_cell? _ _ ((bX HB hw149_0)))).trans ((bX HB hw149_0)), (World.cell?_alloc_lt _ _ _ (World.block_lt_of_cell? _ _ ((bX HB hw149_1)))).trans ((bX HB hw149_1)), (World.cell?_alloc_lt _ _ _ (World.block_lt_of_cell? _ _ ((bX HB hw149_2)))).trans ((bX HB hw149_2)), (World.cell?_alloc_lt _ _ _ (World.block_lt_of_cell? _ _ ((bX HB hw149_3)))).trans ((bX HB hw149_3)), (World.cell?_alloc_lt _ _ _ (World.block_lt_of_cell? _ _ ((bX HB hw149_4)))).trans ((bX HB hw149_4)), (World.cell?_alloc_lt _ _ _ (World.block_lt_of_cell? _ _ ((bX HB hw150_0)))).trans ((bX HB hw150_0)), (World.cell?_alloc_lt _ _ _ (World.block_lt_of_cell? _ _ ((bX HB hw150_1)))).trans ((bX HB hw150_1)), (World.cell?_alloc_lt _ _ _ (World.block_lt_of_cell? _ _ ((bX HB hw150_2)))).trans ((bX HB hw150_2)), (World.cell?_alloc_lt _ _ _ (World.block_lt_of_cell? _ _ ((bX HB hw150_3)))).trans ((bX HB hw150_3)), (World.cell?_alloc_lt _ _ _ (World.block_lt_of_cell? _ _ ((bX HB hw150_4)))).trans ((bX HB hw150_4))⟩ (fun hHeld => ?_)
            clear hK K
            refine nA ?_ (some 48)
            refine oA 12 (some 49) HT_ fun K hK => ?_
            refine Kd.R_append_step k28 (w0 := w) w.heap.size (by rfl) (.tmp 37) (.tmp 48) 36 28 (.agg #[(.int .i64 0), (.int .i64 0), (.int .i64 0), (.int .i64 0), (.int .i64 0), (.int .i64 0), (.int .i64 0), (.int .i64 0), (.int .i64 0), (.int .i64 0), (.int .i64 0), (.int .i64 0)]) 96 rfl Try.underlying36 info28 rfl (by decide) (by omega) u6 x6_2 (⟨3, x25_2, (⟨(rd_T26 l0 x25_2).f0, (rd_T26 l0 x25_2).f1, (rd_T26 l0 x25_2).f2, (rd_T26 l0 x25_2).f3, (rd_T26 l0 x25_2).f4⟩ : S26), (⟨(rd_T26 l1 x25_2).f0, (rd_T26 l1 x25_2).f1, (rd_T26 l1 x25_2).f2, (rd_T26 l1 x25_2).f3, (rd_T26 l1 x25_2).f4⟩ : S26)⟩ : S28) [.int .i64 3, .int .i64 x25_2, .int .i64 ((rd_T26 l0 x25_2).f0), .int .i64 ((rd_T26 l0 x25_2).f1), .int .i64 ((rd_T26 l0 x25_2).f2), .int .i64 ((rd_T26 l0 x25_2).f3), .int .i64 ((rd_T26 l0 x25_2).f4), .int .i64 ((rd_T26 l1 x25_2).f0), .int .i64 ((rd_T26 l1 x25_2).f1), .int .i64 ((rd_T26 l1 x25_2).f2), .int .i64 ((rd_T26 l1 x25_2).f3), .int .i64 ((rd_T26 l1 x25_2).f4)] (fun _ => True) (fun _ => False) rfl rfl ?aP (fun _ hk => hk.elim) ?aF ?aO ?aB ?aS ?aL ?_
            (case aP => exact k28_mkM _ _ _ (⟨3, x25_2, (⟨(rd_T26 l0 x25_2).f0, (rd_T26 l0 x25_2).f1, (rd_T26 l0 x25_2).f2, (rd_T26 l0 x25_2).f3, (rd_T26 l0 x25_2).f4⟩ : S26), (⟨(rd_T26 l1 x25_2).f0, (rd_T26 l1 x25_2).f1, (rd_T26 l1 x25_2).f2, (rd_T26 l1 x25_2).f3, (rd_T26 l1 x25_2).f4⟩ : S26)⟩ : S28))
            (case aB => exact (bW HB))
            (case aF => exact (fun _ _ => trivial))
            (case aO => exact (upR HO_6.out))
            (case aS => exact (below_size (bW HB)))
            (case aL => have := LMc17.out; omega)
            intro v152 w20 ho hb hg hat
            rw [← Ny151.out] at ho
            have HO153 := Aside0.mk (ho)
            replace HB := Aside0.mk (hb)
            clear HO_6
            clear ho hb hg hat
            refine hK.out _ _ ⟨(bX HB hw149_0), (bX HB hw149_1), (bX HB hw149_2), (bX HB hw149_3), (bX HB hw149_4), (bX HB hw150_0), (bX HB hw150_1), (bX HB hw150_2), (bX HB hw150_3), (bX HB hw150_4)⟩ (fun hHeld => ?_)
            clear hK K
            refine nA ?_ (some 49)
            refine pA 13 6 HT_ ?_
            refine done_ (done_of HT_.out (by kernel_rfl)) ?_
            try go_wp2
            go_roundg k2
            case measure => have := HJ2.out; have := HK2.out; omega
            case rel => exact ⟨(y151), (wrap64 (x25_2 + 1)), rB, H', ⟨by have := HJ2.out; have := HK2.out; omega⟩, ⟨upR HO153.out⟩, (aB HB)⟩
           ·rw [if_neg c17] at H
            exact absurd H (by simp)
          ·rw [if_neg c16] at H
           have c16b0 : (!(((rd_T26 l0 x25_2).f0) == ((rd_T26 l1 x25_2).f0)) || (!(((rd_T26 l0 x25_2).f1) == ((rd_T26 l1 x25_2).f1)) || (!(((rd_T26 l0 x25_2).f2) == ((rd_T26 l1 x25_2).f2)) || (!(((rd_T26 l0 x25_2).f3) == ((rd_T26 l1 x25_2).f3)) || (!(((rd_T26 l0 x25_2).f4) == ((rd_T26 l1 x25_2).f4))))))) = false := by simpa using c16
           clear c16
           have H' := Aside0.mk H
           clear H
           try go_wp2
           replace HO_6 := Aside0.mk (Kd.R_drew HO_6.out)
           replace HB := Aside0.mk (below_drew1 HB.out)
           have p147 : 0 ≤ (x25_2 : Int) := of_decide_eq_true asmB
           have q147 : x25_2 < (l0.length : Int) := of_decide_eq_true asmB
           obtain ⟨ad147, e147, hx147_0, hx147_1, hx147_2, hx147_3, hx147_4⟩ := at_T26 HR0.out x25_2 p147 q147
           have hw147_4 := hx147_4
           have hw147_3 := hx147_3
           have hw147_2 := hx147_2
           have hw147_1 := hx147_1
           have hw147_0 := hx147_0
           cases e147
           replace hx147_0 := bx HB.out hx147_0
           replace hx147_1 := bx HB.out hx147_1
           replace hx147_2 := bx HB.out hx147_2
           replace hx147_3 := bx HB.out hx147_3
           replace hx147_4 := bx HB.out hx147_4
           replace p147 := eq_true p147
           replace q147 := eq_true q147
           have p148 : 0 ≤ (x25_2 : Int) := of_decide_eq_true asmB
           have q148 : x25_2 < (l1.length : Int) := of_decide_eq_true asmB
           obtain ⟨ad148, e148, hx148_0, hx148_1, hx148_2, hx148_3, hx148_4⟩ := at_T26 HR1.out x25_2 p148 q148
           have hw148_4 := hx148_4
           have hw148_3 := hx148_3
           have hw148_2 := hx148_2
           have hw148_1 := hx148_1
           have hw148_0 := hx148_0
           cases e148
           replace hx148_0 := bx HB.out hx148_0
           replace hx148_1 := bx HB.out hx148_1
           replace hx148_2 := bx HB.out hx148_2
           replace hx148_3 := bx HB.out hx148_3
           replace hx148_4 := bx HB.out hx148_4
           replace p148 := eq_true p148
           replace q148 := eq_true q148
           refine sA (n := 9) (S := fun w' => w'.cell? (ad147.add ((x25_2).toNat * 5)) = some (.int .i64 ((rd_T26 l0 x25_2).f0)) ∧ w'.cell? ⟨(ad147.add ((x25_2).toNat * 5)).block, (ad147.add ((x25_2).toNat * 5)).off + 1, none⟩ = some (.int .i64 ((rd_T26 l0 x25_2).f1)) ∧ w'.cell? ⟨(ad147.add ((x25_2).toNat * 5)).block, (ad147.add ((x25_2).toNat * 5)).off + 2, none⟩ = some (.int .i64 ((rd_T26 l0 x25_2).f2)) ∧ w'.cell? ⟨(ad147.add ((x25_2).toNat * 5)).block, (ad147.add ((x25_2).toNat * 5)).off + 3, none⟩ = some (.int .i64 ((rd_T26 l0 x25_2).f3)) ∧ w'.cell? ⟨(ad147.add ((x25_2).toNat * 5)).block, (ad147.add ((x25_2).toNat * 5)).off + 4, none⟩ = some (.int .i64 ((rd_T26 l0 x25_2).f4)) ∧ w'.cell? (ad148.add ((x25_2).toNat * 5)) = some (.int .i64 ((rd_T26 l1 x25_2).f0)) ∧ w'.cell? ⟨(ad148.add ((x25_2).toNat * 5)).block, (ad148.add ((x25_2).toNat * 5)).off + 1, none⟩ = some (.int .i64 ((rd_T26 l1 x25_2).f1)) ∧ w'.cell? ⟨(ad148.add ((x25_2).toNat * 5)).block, (ad148.add ((x25_2).toNat * 5)).off + 2, none⟩ = some (.int .i64 ((rd_T26 l1 x25_2).f2)) ∧ w'.cell? ⟨(ad148.add ((x25_2).toNat * 5)).block, (ad148.add ((x25_2).toNat * 5)).off + 3, none⟩ = some (.int .i64 ((rd_T26 l1 x25_2).f3)) ∧ w'.cell? ⟨(ad148.add ((x25_2).toNat * 5)).block, (ad148.add ((x25_2).toNat * 5)).off + 4, none⟩ = some (.int .i64 ((rd_T26 l1 x25_2).f4))) (ds := []) impl_DiffLegs.tab8 impl_DiffLegs.bits8 #[false, false, false, false, false, false, false, false, false] ⟨(bX HB hw147_0), (bX HB hw147_1), (bX HB hw147_2), (bX HB hw147_3), (bX HB hw147_4), (bX HB hw148_0), (bX HB hw148_1), (bX HB hw148_2), (bX HB hw148_3), (bX HB hw148_4)⟩ fun hHeld HT_ HW_ => ?_
           generalize wr.drew = w21 at HO_6 HB hx147_0 hx147_1 hx147_2 hx147_3 hx147_4 hx148_0 hx148_1 hx148_2 hx148_3 hx148_4 hHeld ⊢
           refine pA 0 28 HT_ ?_
           refine pA 1 29 HT_ ?_
           refine pA 2 30 HT_ ?_
           refine pA 4 32 HT_ ?_
           refine pA 5 33 HT_ ?_
           refine pA 6 34 HT_ ?_
           refine tA 3 31 HT_ HW_ hHeld ?_
           refine tA 7 35 HT_ HW_ hHeld ?_
           refine pA 8 36 HT_ ?_
           refine done_ (done_of HT_.out (by kernel_rfl)) ?_
           try go_wp2
           go_roundg k2
           case measure => have := HJ2.out; have := HK2.out; omega
           case rel => exact ⟨(x6_2), (wrap64 (x25_2 + 1)), rB, H', ⟨by have := HJ2.out; have := HK2.out; omega⟩, ⟨upR HO_6.out⟩, (aB HB)⟩
         ·rw [if_neg c15] at H
          exact absurd H (by simp)
        ·rw [if_neg c14] at H
         exact absurd H (by simp)
       ·rw [if_neg c13] at H
        exact absurd H (by simp)
      ·have H' := Aside0.mk H
       clear H
       go_wp2
       go_loopg [6, 9] k2 (fun kq v6 v9 w' => ∃ (x6_3 : List (S28)) (x9_3 : Int), v9 = .int .i64 x9_3 ∧ Aside0 (impl_DiffLegs.l1 kq l0 l1 x6_3 ji11 x9_3 = some (r1, r2)) ∧ Aside0 (kq ≤ k2) ∧ Aside0 (Kd.R k28 28 w' w.heap.size (fun _ => True) v6 x6_3) ∧ Aside0 (Below w.heap.size w w'))
       case atStart => exact ⟨(x6_2), (wrap64 ((l0.length : Int) - 1)), rB, H', ⟨Nat.le_refl _⟩, ⟨upR HO_6.out⟩, (aB HB)⟩
       case round =>
        clear H'
        try clear c1
        try clear c12b0
        obtain ⟨x6_3, x9_3, rfl, HA, HK3, HO_6, HB⟩ := hrel
        cases gk with
        | zero => exact absurd HA.out (by simp [impl_DiffLegs.l1])
        | succ k3 =>
         have H := HA.out
         clear HA
         simp only [impl_DiffLegs.l1] at H
         replace H := ifD H
         rcases H with ⟨H, -, c22b0⟩ | ⟨H, -, c22b0⟩
         ·by_cases c23 : 0 ≤ x9_3
          ·rw [if_pos c23] at H
           have c23b0 : decide (0 ≤ x9_3) = true := decide_eq_true c23
           clear c23
           by_cases c24 : x9_3 < (l0.length : Int)
           ·rw [if_pos c24] at H
            have c24b0 : decide (x9_3 < (l0.length : Int)) = true := decide_eq_true c24
            clear c24
            by_cases c25 : x6_3.length < 1466015503701
            ·rw [if_pos c25] at H
             have LMc25 := Aside0.mk c25
             clear c25
             obtain ⟨y155, hy155⟩ : ∃ y_ : List (S28), y_ = (x6_3 ++ [(⟨2, x9_3, (⟨(rd_T26 l0 x9_3).f0, (rd_T26 l0 x9_3).f1, (rd_T26 l0 x9_3).f2, (rd_T26 l0 x9_3).f3, (rd_T26 l0 x9_3).f4⟩ : S26), (⟨0, 0, 0, 0, 0⟩ : S26)⟩ : S28)]) := ⟨_, rfl⟩
             replace H : (impl_DiffLegs.l1 k3 l0 l1 y155 ji11 (wrap64 (x9_3 - 1))) = some (r1, r2) := by first | (rw [hy155]; with_reducible exact H) | (have H2_ := (Option.bind_some _ _).symm.trans H; rw [hy155]; with_reducible exact H2_) | (have H2_ := (Option.bind_some _ _).symm.trans H; with_reducible exact H2_) | with_reducible exact H | (rw [hy155]; exact H) | exact H
             have Ny155 := Aside0.mk hy155
             clear hy155
             have H' := Aside0.mk H
             clear H
             have p154 : 0 ≤ (x9_3 : Int) := of_decide_eq_true asmB
             have q154 : x9_3 < (l0.length : Int) := of_decide_eq_true asmB
             obtain ⟨ad154, e154, hx154_0, hx154_1, hx154_2, hx154_3, hx154_4⟩ := at_T26 HR0.out x9_3 p154 q154
             cases e154
             replace hx154_0 := bx HB.out hx154_0
             replace hx154_1 := bx HB.out hx154_1
             replace hx154_2 := bx HB.out hx154_2
             replace hx154_3 := bx HB.out hx154_3
             replace hx154_4 := bx HB.out hx154_4
             replace p154 := eq_true p154
             replace q154 := eq_true q154
             go_wp2_with (first | ((with_reducible refine gate_builtin (b := .append) (xs := #[.tmp 59, .tmp 67]) rfl ?_); at_builtin; refine Kd.R_append k28 (w0 := w) w.heap.size rfl (.tmp 59) (.tmp 67) 36 28 (.agg #[(.int .i64 0), (.int .i64 0), (.int .i64 0), (.int .i64 0), (.int .i64 0), (.int .i64 0), (.int .i64 0), (.int .i64 0), (.int .i64 0), (.int .i64 0), (.int .i64 0), (.int .i64 0)]) 96 rfl Try.underlying36 info28 rfl (by decide) (by omega) u6 x6_3 (⟨2, x9_3, (⟨(rd_T26 l0 x9_3).f0, (rd_T26 l0 x9_3).f1, (rd_T26 l0 x9_3).f2, (rd_T26 l0 x9_3).f3, (rd_T26 l0 x9_3).f4⟩ : S26), (⟨0, 0, 0, 0, 0⟩ : S26)⟩ : S28) [.int .i64 2, .int .i64 x9_3, .int .i64 ((rd_T26 l0 x9_3).f0), .int .i64 ((rd_T26 l0 x9_3).f1), .int .i64 ((rd_T26 l0 x9_3).f2), .int .i64 ((rd_T26 l0 x9_3).f3), .int .i64 ((rd_T26 l0 x9_3).f4), .int .i64 0, .int .i64 0, .int .i64 0, .int .i64 0, .int .i64 0] (fun _ => True) (fun _ => False) rfl rfl ?aP (fun _ hk => hk.elim) ?aF ?aO ?aB ?aS ?aL ?_; (case aP => exact k28_mkM _ _ _ (⟨2, x9_3, (⟨(rd_T26 l0 x9_3).f0, (rd_T26 l0 x9_3).f1, (rd_T26 l0 x9_3).f2, (rd_T26 l0 x9_3).f3, (rd_T26 l0 x9_3).f4⟩ : S26), (⟨0, 0, 0, 0, 0⟩ : S26)⟩ : S28)); (case aB => exact (bW HB)); (case aF => exact (fun _ _ => trivial)); (case aO => exact (upR HO_6.out)); (case aS => exact (below_size (bW HB))); (case aL => have := LMc25.out; omega); intro v156 w26 ho hb hg hat; rw [← Ny155.out] at ho; have HO157 := Aside0.mk (ho); replace HB := Aside0.mk (hb); clear HO_6; clear ho hb hg hat))
             go_roundg k3
             case measure => have := HJ2.out; have := HK2.out; have := HK3.out; omega
             case rel => exact ⟨(y155), (wrap64 (x9_3 - 1)), rB, H', ⟨by have := HJ2.out; have := HK2.out; have := HK3.out; omega⟩, ⟨upR HO157.out⟩, (aB HB)⟩
            ·rw [if_neg c25] at H
             exact absurd H (by simp)
           ·rw [if_neg c24] at H
            exact absurd H (by simp)
          ·rw [if_neg c23] at H
           exact absurd H (by simp)
         ·have H' := Aside0.mk H
          clear H
          go_wp2
          go_loopg [6, 10] k3 (fun kq v6 v10 w' => ∃ (x6_4 : List (S28)) (x10_4 : Int), v10 = .int .i64 x10_4 ∧ Aside0 (impl_DiffLegs.l2 kq l1 x6_4 x10_4 = some (r1, r2)) ∧ Aside0 (kq ≤ k3) ∧ Aside0 (Kd.R k28 28 w' w.heap.size (fun _ => True) v6 x6_4) ∧ Aside0 (Below w.heap.size w w'))
          case atStart => exact ⟨(x6_3), (ji11), (by first | rfl | (simp; done) | (simp only [← hji11] <;> (first | rfl | simp)) | (simp [*]; done)), H', ⟨Nat.le_refl _⟩, ⟨upR HO_6.out⟩, (aB HB)⟩
          case round =>
           clear H'
           try clear c1
           try clear c12b0
           try clear c22b0
           obtain ⟨x6_4, x10_4, rfl, HA, HK4, HO_6, HB⟩ := hrel
           cases gk with
           | zero => exact absurd HA.out (by simp [impl_DiffLegs.l2])
           | succ k4 =>
            have H := HA.out
            clear HA
            simp only [impl_DiffLegs.l2] at H
            replace H := ifD H
            rcases H with ⟨H, -, c27b0⟩ | ⟨H, -, c27b0⟩
            ·by_cases c28 : 0 ≤ x10_4
             ·rw [if_pos c28] at H
              have c28b0 : decide (0 ≤ x10_4) = true := decide_eq_true c28
              clear c28
              by_cases c29 : x6_4.length < 1466015503701
              ·rw [if_pos c29] at H
               have LMc29 := Aside0.mk c29
               clear c29
               obtain ⟨y159, hy159⟩ : ∃ y_ : List (S28), y_ = (x6_4 ++ [(⟨1, x10_4, (⟨0, 0, 0, 0, 0⟩ : S26), (⟨(rd_T26 l1 x10_4).f0, (rd_T26 l1 x10_4).f1, (rd_T26 l1 x10_4).f2, (rd_T26 l1 x10_4).f3, (rd_T26 l1 x10_4).f4⟩ : S26)⟩ : S28)]) := ⟨_, rfl⟩
               replace H : (impl_DiffLegs.l2 k4 l1 y159 (wrap64 (x10_4 + 1))) = some (r1, r2) := by first | (rw [hy159]; with_reducible exact H) | (have H2_ := (Option.bind_some _ _).symm.trans H; rw [hy159]; with_reducible exact H2_) | (have H2_ := (Option.bind_some _ _).symm.trans H; with_reducible exact H2_) | with_reducible exact H | (rw [hy159]; exact H) | exact H
               have Ny159 := Aside0.mk hy159
               clear hy159
               have H' := Aside0.mk H
               clear H
               have p158 : 0 ≤ (x10_4 : Int) := of_decide_eq_true asmB
               have q158 : x10_4 < (l1.length : Int) := of_decide_eq_true asmB
               obtain ⟨ad158, e158, hx158_0, hx158_1, hx158_2, hx158_3, hx158_4⟩ := at_T26 HR1.out x10_4 p158 q158
               cases e158
               replace hx158_0 := bx HB.out hx158_0
               replace hx158_1 := bx HB.out hx158_1
               replace hx158_2 := bx HB.out hx158_2
               replace hx158_3 := bx HB.out hx158_3
               replace hx158_4 := bx HB.out hx158_4
               replace p158 := eq_true p158
               replace q158 := eq_true q158
               go_wp2_with (first | ((with_reducible refine gate_builtin (b := .append) (xs := #[.tmp 76, .tmp 84]) rfl ?_); at_builtin; refine Kd.R_append k28 (w0 := w) w.heap.size rfl (.tmp 76) (.tmp 84) 36 28 (.agg #[(.int .i64 0), (.int .i64 0), (.int .i64 0), (.int .i64 0), (.int .i64 0), (.int .i64 0), (.int .i64 0), (.int .i64 0), (.int .i64 0), (.int .i64 0), (.int .i64 0), (.int .i64 0)]) 96 rfl Try.underlying36 info28 rfl (by decide) (by omega) u6 x6_4 (⟨1, x10_4, (⟨0, 0, 0, 0, 0⟩ : S26), (⟨(rd_T26 l1 x10_4).f0, (rd_T26 l1 x10_4).f1, (rd_T26 l1 x10_4).f2, (rd_T26 l1 x10_4).f3, (rd_T26 l1 x10_4).f4⟩ : S26)⟩ : S28) [.int .i64 1, .int .i64 x10_4, .int .i64 0, .int .i64 0, .int .i64 0, .int .i64 0, .int .i64 0, .int .i64 ((rd_T26 l1 x10_4).f0), .int .i64 ((rd_T26 l1 x10_4).f1), .int .i64 ((rd_T26 l1 x10_4).f2), .int .i64 ((rd_T26 l1 x10_4).f3), .int .i64 ((rd_T26 l1 x10_4).f4)] (fun _ => True) (fun _ => False) rfl rfl ?aP (fun _ hk => hk.elim) ?aF ?aO ?aB ?aS ?aL ?_; (case aP => exact k28_mkM _ _ _ (⟨1, x10_4, (⟨0, 0, 0, 0, 0⟩ : S26), (⟨(rd_T26 l1 x10_4).f0, (rd_T26 l1 x10_4).f1, (rd_T26 l1 x10_4).f2, (rd_T26 l1 x10_4).f3, (rd_T26 l1 x10_4).f4⟩ : S26)⟩ : S28)); (case aB => exact (bW HB)); (case aF => exact (fun _ _ => trivial)); (case aO => exact (upR HO_6.out)); (case aS => exact (below_size (bW HB))); (case aL => have := LMc29.out; omega); intro v160 w30 ho hb hg hat; rw [← Ny159.out] at ho; have HO161 := Aside0.mk (ho); replace HB := Aside0.mk (hb); clear HO_6; clear ho hb hg hat))
               go_roundg k4
               case measure => have := HJ2.out; have := HK2.out; have := HK3.out; have := HK4.out; omega
               case rel => exact ⟨(y159), (wrap64 (x10_4 + 1)), rB, H', ⟨by have := HJ2.out; have := HK2.out; have := HK3.out; have := HK4.out; omega⟩, ⟨upR HO161.out⟩, (aB HB)⟩
              ·rw [if_neg c29] at H
               exact absurd H (by simp)
             ·rw [if_neg c28] at H
              exact absurd H (by simp)
            ·replace H := ifD H
             rcases H with ⟨H, c31, c31b0⟩ | ⟨H, c31, c31b0⟩
             ·have c31b1 : decide (10 < x6_4.length) = true := decide_eq_true (by omega)
              clear c31
              simp only [Option.some.injEq, Prod.mk.injEq] at H
              obtain ⟨rfl, rfl⟩ := H
              obtain ⟨Ao32, co32, eo32⟩ := Kd.R_slice HO_6.out
              subst eo32
              go_wp2
              go_ret2
              exact ⟨_, by first | rfl | (simp [errW_none, errW_some] <;> rfl) | (simp only [← hji11]; first | rfl | (simp [errW_none, errW_some] <;> rfl)) | (simp [*, errW_none, errW_some] <;> rfl), by first | exact Kd.R_nil _ _ _ _ _ | exact Kd.N_nil _ _ _ _ _ | exact Kd.V_nil _ _ _ _ _ | exact Kd.Q_nil _ _ _ _ _ | exact Kd.S_nil _ _ _ _ _, (bW HB)⟩
             ·have c31b1 : decide (10 < x6_4.length) = false := decide_eq_false (by omega)
              clear c31
              simp only [Option.some.injEq, Prod.mk.injEq] at H
              obtain ⟨rfl, rfl⟩ := H
              obtain ⟨Ao33, co33, eo33⟩ := Kd.R_slice HO_6.out
              subst eo33
              go_wp2
              go_ret2
              exact ⟨_, by first | rfl | (simp [errW_none, errW_some] <;> rfl) | (simp only [← hji11]; first | rfl | (simp [errW_none, errW_some] <;> rfl)) | (simp [*, errW_none, errW_some] <;> rfl), upR HO_6.out, (bW HB)⟩

end Go.Proofs.Ytinelmmnajelaaa.QFnDiffs
