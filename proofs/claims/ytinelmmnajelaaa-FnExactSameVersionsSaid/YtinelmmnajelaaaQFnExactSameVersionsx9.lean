/- Contracts of Go functions that FnExactSameVersions reaches: the call computes what the plain function says. No condition. -/
import Derived.Test.YtinelmmnajelaaaQFnExactSameVersionsx0
import Derived.Test.YtinelmmnajelaaaQFnExactSameVersionsx1
import Derived.Test.YtinelmmnajelaaaQFnExactSameVersionsx7
import Derived.Test.YtinelmmnajelaaaQFnExactSameVersionsx8
namespace Go.Proofs.Ytinelmmnajelaaa.QFnExactSameVersions
open Go.RowKit Go.Proofs.YtinelmmnajelaaaW.PrintWords Go.Proofs.YtinelmmnajelaaaW.PrintLast Go.Proofs.YtinelmmnajelaaaW.PrintMore
attribute [local go_sem] max2_int min2_int max_two min_two max_three min_three max_four min_four   -- for this text's walks alone
set_option linter.unusedVariables false
set_option linter.unusedSimpArgs false

attribute [local go_sem high] eqA26
/-! ### impl_versions: function 69 -/
mutual
def impl_versions.j0 : Nat → List (S26) → List (S28) → Bool → Option ((List (List (S26))) × Bool)
  | 0, _, _, _ => none
  | k + 1, x0, x1, x18 => if x18 = true then (some (([] : List (List (S26))), false)) else ((impl_Leg_91.f x0).bind fun t298 => (impl_versions.l0 k (([t298] : List (List (S26)))) x1 (x1.length : Int) 0))
def impl_versions.l0 : Nat → List (List (S26)) → List (S28) → Int → Int → Option ((List (List (S26))) × Bool)
  | 0, _, _, _, _ => none
  | k + 1, x6, x22, x23, x24 => if x24 < x23 then (if 0 ≤ x24 then (if x24 < (x22.length : Int) then (if x24 < (x6.length : Int) then ((impl_apply.f k (rd_L7 x6 x24) ((rd_T28 x22 x24).f0) ((rd_T28 x22 x24).f1) ((rd_T28 x22 x24).f2.f0) ((rd_T28 x22 x24).f2.f1) ((rd_T28 x22 x24).f2.f2) ((rd_T28 x22 x24).f2.f3) ((rd_T28 x22 x24).f2.f4) ((rd_T28 x22 x24).f3.f0) ((rd_T28 x22 x24).f3.f1) ((rd_T28 x22 x24).f3.f2) ((rd_T28 x22 x24).f3.f3) ((rd_T28 x22 x24).f3.f4)).bind fun bt307 => (if bt307.2 = true then (if x6.length < 5864062014805 then (impl_versions.l0 k (x6 ++ [bt307.1]) x22 x23 (wrap64 (x24 + 1))) else (none)) else (some (([] : List (List (S26))), false)))) else (none)) else (none)) else (none)) else (some (x6, true))
end
def impl_versions.f (k : Nat) (l0 : List (S26)) (l1 : List (S28)) : Option ((List (List (S26))) × Bool) := (impl_areLegs.f k l0).bind fun t297 => (if t297 = true then (impl_versions.j0 k l0 l1 (decide ((l1.length : Int) > 10))) else (impl_versions.j0 k l0 l1 true))
theorem impl_versions.mono_l : ∀ k, (∀ y0 y1 y2, LeO (impl_versions.j0 k y0 y1 y2) (impl_versions.j0 (k + 1) y0 y1 y2)) ∧ (∀ y0 y1 y2 y3, LeO (impl_versions.l0 k y0 y1 y2 y3) (impl_versions.l0 (k + 1) y0 y1 y2 y3))
  | 0 => ⟨fun _ _ _ r h => by simp [impl_versions.j0] at h, fun _ _ _ _ r h => by simp [impl_versions.l0] at h⟩
  | k + 1 => by
    obtain ⟨ih0, ih1⟩ := impl_versions.mono_l k
    refine ⟨?_, ?_⟩
    · intro y0 y1 y2
      unfold impl_versions.j0
      repeat' first
      | (with_reducible exact ih0 _ _ _)
      | (with_reducible exact ih1 _ _ _ _)
      | (with_reducible exact impl_apply.mono _ _ _ _ _ _ _ _ _ _ _ _ _ _)
      | (with_reducible exact impl_areLegs.mono _ _)
      | (with_reducible exact LeO.refl _)
      | (with_reducible exact LeO.none _)
      | (with_reducible refine LeO.ite ?_ ?_)
      | (with_reducible refine LeO.bind ?_ (fun _ => ?_))
      | exact ih0 _ _ _
      | exact ih1 _ _ _ _
      | exact impl_apply.mono _ _ _ _ _ _ _ _ _ _ _ _ _ _
      | exact impl_areLegs.mono _ _
      | exact LeO.none _
      | refine LeO.ite ?_ ?_
      | refine LeO.bind ?_ (fun _ => ?_)
    · intro y0 y1 y2 y3
      unfold impl_versions.l0
      repeat' first
      | (with_reducible exact ih0 _ _ _)
      | (with_reducible exact ih1 _ _ _ _)
      | (with_reducible exact impl_apply.mono _ _ _ _ _ _ _ _ _ _ _ _ _ _)
      | (with_reducible exact impl_areLegs.mono _ _)
      | (with_reducible exact LeO.refl _)
      | (with_reducible exact LeO.none _)
      | (with_reducible refine LeO.ite ?_ ?_)
      | (with_reducible refine LeO.bind ?_ (fun _ => ?_))
      | exact ih0 _ _ _
      | exact ih1 _ _ _ _
      | exact impl_apply.mono _ _ _ _ _ _ _ _ _ _ _ _ _ _
      | exact impl_areLegs.mono _ _
      | exact LeO.none _
      | refine LeO.ite ?_ ?_
      | refine LeO.bind ?_ (fun _ => ?_)
theorem impl_versions.mono : ∀ a0 a1 k, LeO (impl_versions.f k a0 a1) (impl_versions.f (k + 1) a0 a1) := by
  intro a0 a1 k
  obtain ⟨ih0, ih1⟩ := impl_versions.mono_l k
  unfold impl_versions.f
  repeat' first
      | (with_reducible exact ih0 _ _ _)
      | (with_reducible exact ih1 _ _ _ _)
      | (with_reducible exact impl_apply.mono _ _ _ _ _ _ _ _ _ _ _ _ _ _)
      | (with_reducible exact impl_areLegs.mono _ _)
      | (with_reducible exact LeO.refl _)
      | (with_reducible exact LeO.none _)
      | (with_reducible refine LeO.ite ?_ ?_)
      | (with_reducible refine LeO.bind ?_ (fun _ => ?_))
      | exact ih0 _ _ _
      | exact ih1 _ _ _ _
      | exact impl_apply.mono _ _ _ _ _ _ _ _ _ _ _ _ _ _
      | exact impl_areLegs.mono _ _
      | exact LeO.none _
      | refine LeO.ite ?_ ?_
      | refine LeO.bind ?_ (fun _ => ?_)
def impl_versions.T7 : Bool × List (List Nat × List Nat) := (true, [([], []), ([], []), ([0, 1], [0, 1]), ([2], [2]), ([], []), ([3, 4], [3, 4]), ([5], [5]), ([6], [6]), ([6], [6]), ([7, 5, 0, 1, 2, 3, 4, 5, 6, 7], [7]), ([8, 9, 0, 1, 2, 3, 4, 5, 6, 7, 8, 9], [8])])
def impl_versions.B7 : List Nat := [0, 0, 3, 7, 0, 31, 63, 127, 127, 255, 1023]
theorem impl_versions.tab7 : rtab .any (opsOf Try.f69 7) = impl_versions.T7 := by kernel_rfl
theorem impl_versions.bits7 : waitsOk impl_versions.T7.2 impl_versions.B7 = true := by kernel_rfl
set_option maxHeartbeats 8000000 in
set_option maxRecDepth 100000 in
theorem impl_versions.calls (k : Nat) (A0 : Option Addr) (c0 : Nat) (l0 : List (S26)) (A1 : Option Addr) (c1 : Nat) (l1 : List (S28)) (r1 : List (List (S26))) (r2 : Bool) (w : World) (hr0 : Kd.C k26 w A0 l0.length l0) (hc0 : l0.length ≤ c0) (hr1 : Kd.C k28 w A1 l1.length l1) (hc1 : l1.length ≤ c1) (h : impl_versions.f k l0 l1 = some (r1, r2)) :
    Calls Try.prog 69 #[.slice A0 l0.length c0, .slice A1 l1.length c1] w fun e w' => ∃ v0_ : Value, e = .returned (.tuple #[v0_, .bool r2]) ∧ Kd.N (Kd.slice 26 k26) 39 w' w.heap.size (fun k_ => (w.heap.size ≤ k_)) v0_ r1 ∧ Below w.heap.size w w' := by
  have hu28 := Try.underlying28
  have HR0 := Aside0.mk hr0
  have HC0 := Aside0.mk hc0
  clear hr0 hc0
  have HR1 := Aside0.mk hr1
  have HC1 := Aside0.mk hc1
  clear hr1 hc1
  have HB := Aside0.mk (Below.refl w.heap.size w)
  have H : ((impl_areLegs.f k l0).bind fun t297 => (if t297 = true then (impl_versions.j0 k l0 l1 (decide ((l1.length : Int) > 10))) else (impl_versions.j0 k l0 l1 true))) = some (r1, r2) := h
  clear h
  have HC3 := Aside0.mk H
  clear H
  go_enter Try.func69, Try.ntmps69
  go_upto_region 1 with (fail)
  go_cut [18] (fun v18 wc => ∃ (kq : Nat) (x18_2 : Bool), v18 = .bool x18_2 ∧ Aside0 (impl_versions.j0 kq l0 l1 x18_2 = some (r1, r2)) ∧ Aside0 (kq ≤ k) ∧ Aside0 (Below w.heap.size w wc))
  case first =>
    have H := HC3.out
    clear HC3
    replace H := Option.bind_eq_some_iff.mp H
    obtain ⟨t297, A40, H⟩ := H
    replace H : (if t297 = true then (impl_versions.j0 k l0 l1 (decide ((l1.length : Int) > 10))) else (impl_versions.j0 k l0 l1 true)) = some (r1, r2) := H
    have A4 := Aside0.mk A40
    clear A40
    by_cases c5 : t297 = true
    · subst c5
      have H1 : (impl_versions.j0 k l0 l1 (decide ((l1.length : Int) > 10))) = some (r1, r2) := by rw [if_pos rfl] at H; exact H
      clear H
      have H := H1
      clear H1
      have H' := Aside0.mk H
      clear H
      go_wp2_with (first | ((with_reducible refine gate_callee (f := 65) rfl ?_); refine goesL_ (some 12) rfl rfl Try.func65 (by kernel_rfl) rfl #[.slice A0 l0.length c0] rfl argsB ?_; (with_reducible refine (impl_areLegs.calls k _ _ l0 true _ ?side1 ?side2 A4.out).mono ?_); (case side1 => repeat (first | exact (Kd.C_below HR0.out HB.out) | (with_reducible refine Kd.C_alloc ?_ _) | (with_reducible refine Kd.C_drewN ?_ _) | (with_reducible refine Kd.C_drew ?_))); (case side2 => exact HC0.out); rintro e w6 ⟨rfl, hb⟩; refine ⟨_, rfl, ?_⟩; have n0_ := Aside0.mk (below_step (upB HB.out) hb); clear HB; have HB := n0_; clear n0_; (try clear hb); (try clear hk)))
      go_meet
      case rel => exact ⟨_, (decide ((l1.length : Int) > 10)), (by first | rfl | (simp; done) | (simp [*]; done)), H', ⟨by first | omega | exact Nat.le_refl _⟩, ⟨(upB HB.out)⟩⟩
    · replace c5 := Bool.eq_false_iff.mpr c5
      subst c5
      have H1 : (impl_versions.j0 k l0 l1 true) = some (r1, r2) := by rw [if_neg (show ¬ (false = true) by decide)] at H; exact H
      clear H
      have H := H1
      clear H1
      have H' := Aside0.mk H
      clear H
      go_wp2_with (first | ((with_reducible refine gate_callee (f := 65) rfl ?_); refine goesL_ (some 12) rfl rfl Try.func65 (by kernel_rfl) rfl #[.slice A0 l0.length c0] rfl argsB ?_; (with_reducible refine (impl_areLegs.calls k _ _ l0 false _ ?side1 ?side2 A4.out).mono ?_); (case side1 => repeat (first | exact (Kd.C_below HR0.out HB.out) | (with_reducible refine Kd.C_alloc ?_ _) | (with_reducible refine Kd.C_drewN ?_ _) | (with_reducible refine Kd.C_drew ?_))); (case side2 => exact HC0.out); rintro e w7 ⟨rfl, hb⟩; refine ⟨_, rfl, ?_⟩; have n0_ := Aside0.mk (below_step (upB HB.out) hb); clear HB; have HB := n0_; clear n0_; (try clear hb); (try clear hk)))
      go_meet
      case rel => exact ⟨_, (true), (by first | rfl | (simp; done) | (simp [*]; done)), H', ⟨by first | omega | exact Nat.le_refl _⟩, ⟨(upB HB.out)⟩⟩
  case rest =>
    clear HC3
    try clear c1
    try clear c5
    obtain ⟨kq, x18_2, rfl, HA, HJ2, HB⟩ := hcut
    cases kq with
    | zero => exact absurd HA.out (by simp [impl_versions.j0])
    | succ kj2 =>
      have H := HA.out
      clear HA
      simp only [impl_versions.j0] at H
      by_cases c8 : x18_2 = true
      · subst c8
        have H1 : (some (([] : List (List (S26))), false)) = some (r1, r2) := by rw [if_pos rfl] at H; exact H
        clear H
        have H := H1
        clear H1
        simp only [Option.some.injEq, Prod.mk.injEq] at H
        obtain ⟨rfl, rfl⟩ := H
        go_wp2
        go_ret2
        exact ⟨_, by first | rfl | (simp [errW_none, errW_some] <;> rfl) | (simp [*, errW_none, errW_some] <;> rfl), by first | exact Kd.S_nil _ _ _ _ _ | exact Kd.N_nil _ _ _ _ _ | exact Kd.V_nil _ _ _ _ _ | exact Kd.Q_nil _ _ _ _ _ | exact Kd.R_nil _ _ _ _ _, (upB HB.out)⟩
      · replace c8 := Bool.eq_false_iff.mpr c8
        subst c8
        have H1 : ((impl_Leg_91.f l0).bind fun t298 => (impl_versions.l0 kj2 (([t298] : List (List (S26)))) l1 (l1.length : Int) 0)) = some (r1, r2) := by rw [if_neg (show ¬ (false = true) by decide)] at H; exact H
        clear H
        have H := H1
        clear H1
        replace H := Option.bind_eq_some_iff.mp H
        obtain ⟨t298, A90, H⟩ := H
        replace H : (impl_versions.l0 kj2 (([t298] : List (List (S26)))) l1 (l1.length : Int) 0) = some (r1, r2) := H
        have A9 := Aside0.mk A90
        clear A90
        obtain ⟨y301, hy301⟩ : ∃ y_ : List (List (S26)), y_ = (([t298] : List (List (S26)))) := ⟨_, rfl⟩
        replace H : (impl_versions.l0 kj2 y301 l1 (l1.length : Int) 0) = some (r1, r2) := by first | (rw [hy301]; with_reducible exact H) | (have H2_ := (Option.bind_some _ _).symm.trans H; rw [hy301]; with_reducible exact H2_) | (have H2_ := (Option.bind_some _ _).symm.trans H; with_reducible exact H2_) | with_reducible exact H | (rw [hy301]; exact H) | exact H
        have Ny301 := Aside0.mk hy301
        clear hy301
        have H' := Aside0.mk H
        clear H
        go_wp2_with (first | ((with_reducible refine gate_callee (f := 91) rfl ?_); refine goesL_ (some 20) rfl rfl Try.func91 (by kernel_rfl) rfl #[.slice A0 l0.length c0] rfl argsB ?_; (with_reducible refine (impl_Leg_91.calls _ _ l0 t298 _ ?side1 ?side2 A9.out).mono ?_); (case side1 => repeat (first | exact (Kd.C_below HR0.out HB.out) | (with_reducible refine Kd.C_alloc ?_ _) | (with_reducible refine Kd.C_drewN ?_ _) | (with_reducible refine Kd.C_drew ?_))); (case side2 => exact HC0.out); rintro e w10 ⟨v299, rfl, ho0, hb⟩; refine ⟨_, rfl, ?_⟩; have n0_ := Aside0.mk (Kd.R_lower (Kd.R_newM (M := fun k_ => (w.heap.size ≤ k_)) ho0 (below_size (upB HB.out)) (fun k_ h_ => h_)) (below_size (upB HB.out))); have n1_ := Aside0.mk (below_step (upB HB.out) hb); clear HB; have HO300 := n0_; have HB := n1_; clear n0_ n1_; (try clear hb); (try clear hk); (try clear ho0); obtain ⟨Ao11, co11, eo11⟩ := Kd.R_slice HO300.out; subst eo11) | ((with_reducible refine gate_dst (N := 21) rfl ?_); (try (refine gate_guard (by rfl) ?_; dsimp only)); refine Kd.N_lit (Kd.slice 26 k26) _ 39 ?hg (N' := 21) ?hd (xs := ([t298] : List (List (S26)))) (inner := [.slice Ao11 t298.length co11]) (ok := (fun k_ => (w.heap.size ≤ k_))) (okp := (fun k_ => (w.heap.size ≤ k_))) ?hr ?hp (fun _ hk => hk) ((show ∀ k_, w10.heap.size ≤ k_ → (fun k_ => (w.heap.size ≤ k_)) k_ from fun k_ hk => (Nat.le_trans (below_size (upB HB.out)) hk)) _ (Nat.le_refl _)) (Below.refl _ _) (Nat.le_refl _) (by simp) ?_; (case hd => rfl); (case hg => rfl); (case hr => first | (go_simp; done) | (go_simp; rfl)); (case hp => exact (Reps.one (show Kd.FK (Kd.slice 26 k26) _ _ t298 [.slice Ao11 t298.length co11] from (Kd.FK_slice_mk (Kd.R_reads' (Kd.R_mono (ok' := (fun k_ => (w.heap.size ≤ k_))) (HO300.out) (fun k_ hk => hk.1))).2.1 (Kd.R_F (Kd.R_mono (ok' := (fun k_ => (w.heap.size ≤ k_))) (HO300.out) (fun k_ hk => hk.1))))) (Reps.none _ _))); intro v302 w12 ho13 hb hg_ hnew_; clear hg_ hnew_; (first | rw [← Ny301.out] at ho13 | (simp only [Int.reduceToNat] at ho13; rw [← Ny301.out] at ho13)); have n0_ := Aside0.mk (Kd.N_lower ho13 (below_size (upB HB.out))); have n1_ := Aside0.mk (below_step (upB HB.out) hb); clear HB; clear HO300; have HO303 := n0_; have HB := n1_; clear n0_ n1_; clear hb ho13))
        go_loopg [6, 24] kj2 (fun kq v6 v24 w' => ∃ (x6_2 : List (List (S26))) (x24_2 : Int), v24 = .int .i64 x24_2 ∧ Aside0 (impl_versions.l0 kq x6_2 l1 (l1.length : Int) x24_2 = some (r1, r2)) ∧ Aside0 (kq ≤ kj2) ∧ Aside0 (Kd.N (Kd.slice 26 k26) 39 w' w.heap.size (fun k_ => (w.heap.size ≤ k_)) v6 x6_2) ∧ Aside0 (Below w.heap.size w w'))
        case atStart => exact ⟨(y301), (0), (by first | rfl | (simp; done) | (simp [*]; done)), H', ⟨Nat.le_refl _⟩, ⟨by (with_reducible repeat (first | apply Kd.N_alloc | apply Kd.N_drewN | apply Kd.N_drew)); exact HO303.out⟩, ⟨(upB HB.out)⟩⟩
        case round =>
          clear H'
          try clear c1
          try clear c5
          try clear c8
          obtain ⟨x6_2, x24_2, rfl, HA, HK2, HO_6, HB⟩ := hrel
          cases gk with
          | zero => exact absurd HA.out (by simp [impl_versions.l0])
          | succ k2 =>
            have H := HA.out
            clear HA
            simp only [impl_versions.l0] at H
            by_cases c14 : x24_2 < (l1.length : Int)
            · rw [if_pos c14] at H
              have c14b0 : decide (x24_2 < (l1.length : Int)) = true := decide_eq_true c14
              clear c14
              by_cases c15 : 0 ≤ x24_2
              · rw [if_pos c15] at H
                have c15b0 : decide (0 ≤ x24_2) = true := decide_eq_true c15
                clear c15
                by_cases c16 : x24_2 < (l1.length : Int)
                · rw [if_pos c16] at H
                  have c16b0 : decide (x24_2 < (l1.length : Int)) = true := decide_eq_true c16
                  clear c16
                  by_cases c17 : x24_2 < (x6_2.length : Int)
                  · rw [if_pos c17] at H
                    have c17b0 : decide (x24_2 < (x6_2.length : Int)) = true := decide_eq_true c17
                    clear c17
                    replace H := Option.bind_eq_some_iff.mp H
                    obtain ⟨⟨t307, t310⟩, A180, H⟩ := H
                    replace H : (if t310 = true then (if x6_2.length < 5864062014805 then (impl_versions.l0 k2 (x6_2 ++ [t307]) l1 (l1.length : Int) (wrap64 (x24_2 + 1))) else (none)) else (some (([] : List (List (S26))), false))) = some (r1, r2) := H
                    have A18 := Aside0.mk A180
                    clear A180
                    by_cases c19 : t310 = true
                    · subst c19
                      have H1 : (if x6_2.length < 5864062014805 then (impl_versions.l0 k2 (x6_2 ++ [t307]) l1 (l1.length : Int) (wrap64 (x24_2 + 1))) else (none)) = some (r1, r2) := by rw [if_pos rfl] at H; exact H
                      clear H
                      have H := H1
                      clear H1
                      by_cases c20 : x6_2.length < 5864062014805
                      · rw [if_pos c20] at H
                        have LMc20 := Aside0.mk c20
                        clear c20
                        obtain ⟨y311, hy311⟩ : ∃ y_ : List (List (S26)), y_ = (x6_2 ++ [t307]) := ⟨_, rfl⟩
                        replace H : (impl_versions.l0 k2 y311 l1 (l1.length : Int) (wrap64 (x24_2 + 1))) = some (r1, r2) := by first | (rw [hy311]; with_reducible exact H) | (have H2_ := (Option.bind_some _ _).symm.trans H; rw [hy311]; with_reducible exact H2_) | (have H2_ := (Option.bind_some _ _).symm.trans H; with_reducible exact H2_) | with_reducible exact H | (rw [hy311]; exact H) | exact H
                        have Ny311 := Aside0.mk hy311
                        clear hy311
                        have H' := Aside0.mk H
                        clear H
                        have p304 : 0 ≤ (x24_2 : Int) := of_decide_eq_true asmB
                        have q304 : x24_2 < (l1.length : Int) := of_decide_eq_true asmB
                        obtain ⟨ad304, e304, hx304_0, hx304_1, hx304_2, hx304_3, hx304_4, hx304_5, hx304_6, hx304_7, hx304_8, hx304_9, hx304_10, hx304_11⟩ := at_T28 HR1.out x24_2 p304 q304
                        cases e304
                        replace hx304_0 := bx HB.out hx304_0
                        replace hx304_1 := bx HB.out hx304_1
                        replace hx304_2 := bx HB.out hx304_2
                        replace hx304_3 := bx HB.out hx304_3
                        replace hx304_4 := bx HB.out hx304_4
                        replace hx304_5 := bx HB.out hx304_5
                        replace hx304_6 := bx HB.out hx304_6
                        replace hx304_7 := bx HB.out hx304_7
                        replace hx304_8 := bx HB.out hx304_8
                        replace hx304_9 := bx HB.out hx304_9
                        replace hx304_10 := bx HB.out hx304_10
                        replace hx304_11 := bx HB.out hx304_11
                        replace p304 := eq_true p304
                        replace q304 := eq_true q304
                        try go_wp2_with (first | ((with_reducible refine gate_dst (N := 8) rfl ?_); (try (refine gate_guard (by rfl) ?_; dsimp only)); refine box_event ?hg (N := 8) ?hd (cs := #[.int .i64 0, .int .i64 0, .int .i64 0, .int .i64 0, .int .i64 0, .int .i64 0, .int .i64 0, .int .i64 0, .int .i64 0, .int .i64 0, .int .i64 0, .int .i64 0]) (t := 28) ?hr ?_; (case hd => rfl); (case hg => rfl); (case hr => first | (go_simp; done) | (go_simp; rfl)); intro gb305 hg w21 hbox hb; have n0_ := Aside0.mk (Kd.N_below (Kd.N_elderB (by (with_reducible repeat (first | apply Kd.N_alloc | apply Kd.N_drewN | apply Kd.N_drew)); exact HO_6.out) gb305 (Nat.le_of_eq hg.symm)) hb); have n1_ := Aside0.mk (below_step (upB HB.out) hb); have n2_ := Aside0.mk (hbox); have n3_ := Aside0.mk ((by rw [hg]; exact (below_size (upB HB.out)) : w.heap.size ≤ gb305)); have n4_ := Aside0.mk ((by rw [hg]; exact (below_size (upB HB.out)) : w.heap.size ≤ gb305)); clear HO_6; clear HB; have HO_6 := n0_; have HB := n1_; have BK305 := n2_; have GW305 := n3_; have GE305 := n4_; clear n0_ n1_ n2_ n3_ n4_; clear hb hbox hg; have hcz22_0 := ci BK305.out 0 0 rfl; have hcz22_1 := ci BK305.out 1 0 rfl; have hcz22_2 := ci BK305.out 2 0 rfl; have hcz22_3 := ci BK305.out 3 0 rfl; have hcz22_4 := ci BK305.out 4 0 rfl; have hcz22_5 := ci BK305.out 5 0 rfl; have hcz22_6 := ci BK305.out 6 0 rfl; have hcz22_7 := ci BK305.out 7 0 rfl; have hcz22_8 := ci BK305.out 8 0 rfl; have hcz22_9 := ci BK305.out 9 0 rfl; have hcz22_10 := ci BK305.out 10 0 rfl; have hcz22_11 := ci BK305.out 11 0 rfl; have hfz22_0 := fun j_ : Nat => blk_frozen BK305.out j_))
                        have n0_ : Aside0 (Kd.N (Kd.slice 26 k26) 39 ((((((((((((w21.setCell ⟨gb305, 0, none⟩ (.int .i64 ((rd_T28 l1 x24_2).f0))).setCell ⟨gb305, 1, none⟩ (.int .i64 ((rd_T28 l1 x24_2).f1))).setCell ⟨gb305, 2, none⟩ (.int .i64 ((rd_T28 l1 x24_2).f2.f0))).setCell ⟨gb305, 3, none⟩ (.int .i64 ((rd_T28 l1 x24_2).f2.f1))).setCell ⟨gb305, 4, none⟩ (.int .i64 ((rd_T28 l1 x24_2).f2.f2))).setCell ⟨gb305, 5, none⟩ (.int .i64 ((rd_T28 l1 x24_2).f2.f3))).setCell ⟨gb305, 6, none⟩ (.int .i64 ((rd_T28 l1 x24_2).f2.f4))).setCell ⟨gb305, 7, none⟩ (.int .i64 ((rd_T28 l1 x24_2).f3.f0))).setCell ⟨gb305, 8, none⟩ (.int .i64 ((rd_T28 l1 x24_2).f3.f1))).setCell ⟨gb305, 9, none⟩ (.int .i64 ((rd_T28 l1 x24_2).f3.f2))).setCell ⟨gb305, 10, none⟩ (.int .i64 ((rd_T28 l1 x24_2).f3.f3))).setCell ⟨gb305, 11, none⟩ (.int .i64 ((rd_T28 l1 x24_2).f3.f4))) w.heap.size (fun k_ => (w.heap.size ≤ k_) ∧ k_ ≠ gb305) u6 x6_2) := ⟨by (with_reducible repeat (first | apply Kd.N_alloc | apply Kd.N_drewN | apply Kd.N_drew)); exact Kd.N_mono (Kd.N_far (p := ⟨gb305, 11, none⟩) (Kd.N_far (p := ⟨gb305, 10, none⟩) (Kd.N_far (p := ⟨gb305, 9, none⟩) (Kd.N_far (p := ⟨gb305, 8, none⟩) (Kd.N_far (p := ⟨gb305, 7, none⟩) (Kd.N_far (p := ⟨gb305, 6, none⟩) (Kd.N_far (p := ⟨gb305, 5, none⟩) (Kd.N_far (p := ⟨gb305, 4, none⟩) (Kd.N_far (p := ⟨gb305, 3, none⟩) (Kd.N_far (p := ⟨gb305, 2, none⟩) (Kd.N_far (p := ⟨gb305, 1, none⟩) (Kd.N_far (p := ⟨gb305, 0, none⟩) (Kd.N_mono HO_6.out (fun k_ hk => (⟨hk, hk.2⟩ : _ ∧ k_ ≠ gb305))) (fun _ hk => hk.2) (.int .i64 ((rd_T28 l1 x24_2).f0))) (fun _ hk => hk.2) (.int .i64 ((rd_T28 l1 x24_2).f1))) (fun _ hk => hk.2) (.int .i64 ((rd_T28 l1 x24_2).f2.f0))) (fun _ hk => hk.2) (.int .i64 ((rd_T28 l1 x24_2).f2.f1))) (fun _ hk => hk.2) (.int .i64 ((rd_T28 l1 x24_2).f2.f2))) (fun _ hk => hk.2) (.int .i64 ((rd_T28 l1 x24_2).f2.f3))) (fun _ hk => hk.2) (.int .i64 ((rd_T28 l1 x24_2).f2.f4))) (fun _ hk => hk.2) (.int .i64 ((rd_T28 l1 x24_2).f3.f0))) (fun _ hk => hk.2) (.int .i64 ((rd_T28 l1 x24_2).f3.f1))) (fun _ hk => hk.2) (.int .i64 ((rd_T28 l1 x24_2).f3.f2))) (fun _ hk => hk.2) (.int .i64 ((rd_T28 l1 x24_2).f3.f3))) (fun _ hk => hk.2) (.int .i64 ((rd_T28 l1 x24_2).f3.f4))) (fun _ hk => ⟨hk.1.1, hk.1.2⟩)⟩
                        have n1_ : Aside0 (((((((((((((w21.setCell ⟨gb305, 0, none⟩ (.int .i64 ((rd_T28 l1 x24_2).f0))).setCell ⟨gb305, 1, none⟩ (.int .i64 ((rd_T28 l1 x24_2).f1))).setCell ⟨gb305, 2, none⟩ (.int .i64 ((rd_T28 l1 x24_2).f2.f0))).setCell ⟨gb305, 3, none⟩ (.int .i64 ((rd_T28 l1 x24_2).f2.f1))).setCell ⟨gb305, 4, none⟩ (.int .i64 ((rd_T28 l1 x24_2).f2.f2))).setCell ⟨gb305, 5, none⟩ (.int .i64 ((rd_T28 l1 x24_2).f2.f3))).setCell ⟨gb305, 6, none⟩ (.int .i64 ((rd_T28 l1 x24_2).f2.f4))).setCell ⟨gb305, 7, none⟩ (.int .i64 ((rd_T28 l1 x24_2).f3.f0))).setCell ⟨gb305, 8, none⟩ (.int .i64 ((rd_T28 l1 x24_2).f3.f1))).setCell ⟨gb305, 9, none⟩ (.int .i64 ((rd_T28 l1 x24_2).f3.f2))).setCell ⟨gb305, 10, none⟩ (.int .i64 ((rd_T28 l1 x24_2).f3.f3))).setCell ⟨gb305, 11, none⟩ (.int .i64 ((rd_T28 l1 x24_2).f3.f4))).heap[gb305]? = some (.cells #[.int .i64 ((rd_T28 l1 x24_2).f0), .int .i64 ((rd_T28 l1 x24_2).f1), .int .i64 ((rd_T28 l1 x24_2).f2.f0), .int .i64 ((rd_T28 l1 x24_2).f2.f1), .int .i64 ((rd_T28 l1 x24_2).f2.f2), .int .i64 ((rd_T28 l1 x24_2).f2.f3), .int .i64 ((rd_T28 l1 x24_2).f2.f4), .int .i64 ((rd_T28 l1 x24_2).f3.f0), .int .i64 ((rd_T28 l1 x24_2).f3.f1), .int .i64 ((rd_T28 l1 x24_2).f3.f2), .int .i64 ((rd_T28 l1 x24_2).f3.f3), .int .i64 ((rd_T28 l1 x24_2).f3.f4)] 28 (0, 0))) := ⟨by (with_reducible repeat (first | refine blk_drewN ?_ _ | refine blk_drew ?_ | refine blk_alloc ?_ _)); refine blk_put (cs := #[.int .i64 ((rd_T28 l1 x24_2).f0), .int .i64 ((rd_T28 l1 x24_2).f1), .int .i64 ((rd_T28 l1 x24_2).f2.f0), .int .i64 ((rd_T28 l1 x24_2).f2.f1), .int .i64 ((rd_T28 l1 x24_2).f2.f2), .int .i64 ((rd_T28 l1 x24_2).f2.f3), .int .i64 ((rd_T28 l1 x24_2).f2.f4), .int .i64 ((rd_T28 l1 x24_2).f3.f0), .int .i64 ((rd_T28 l1 x24_2).f3.f1), .int .i64 ((rd_T28 l1 x24_2).f3.f2), .int .i64 ((rd_T28 l1 x24_2).f3.f3), .int .i64 0]) ?_ 11 _ rfl; (with_reducible repeat (first | refine blk_drewN ?_ _ | refine blk_drew ?_ | refine blk_alloc ?_ _)); refine blk_put (cs := #[.int .i64 ((rd_T28 l1 x24_2).f0), .int .i64 ((rd_T28 l1 x24_2).f1), .int .i64 ((rd_T28 l1 x24_2).f2.f0), .int .i64 ((rd_T28 l1 x24_2).f2.f1), .int .i64 ((rd_T28 l1 x24_2).f2.f2), .int .i64 ((rd_T28 l1 x24_2).f2.f3), .int .i64 ((rd_T28 l1 x24_2).f2.f4), .int .i64 ((rd_T28 l1 x24_2).f3.f0), .int .i64 ((rd_T28 l1 x24_2).f3.f1), .int .i64 ((rd_T28 l1 x24_2).f3.f2), .int .i64 0, .int .i64 0]) ?_ 10 _ rfl; (with_reducible repeat (first | refine blk_drewN ?_ _ | refine blk_drew ?_ | refine blk_alloc ?_ _)); refine blk_put (cs := #[.int .i64 ((rd_T28 l1 x24_2).f0), .int .i64 ((rd_T28 l1 x24_2).f1), .int .i64 ((rd_T28 l1 x24_2).f2.f0), .int .i64 ((rd_T28 l1 x24_2).f2.f1), .int .i64 ((rd_T28 l1 x24_2).f2.f2), .int .i64 ((rd_T28 l1 x24_2).f2.f3), .int .i64 ((rd_T28 l1 x24_2).f2.f4), .int .i64 ((rd_T28 l1 x24_2).f3.f0), .int .i64 ((rd_T28 l1 x24_2).f3.f1), .int .i64 0, .int .i64 0, .int .i64 0]) ?_ 9 _ rfl; (with_reducible repeat (first | refine blk_drewN ?_ _ | refine blk_drew ?_ | refine blk_alloc ?_ _)); refine blk_put (cs := #[.int .i64 ((rd_T28 l1 x24_2).f0), .int .i64 ((rd_T28 l1 x24_2).f1), .int .i64 ((rd_T28 l1 x24_2).f2.f0), .int .i64 ((rd_T28 l1 x24_2).f2.f1), .int .i64 ((rd_T28 l1 x24_2).f2.f2), .int .i64 ((rd_T28 l1 x24_2).f2.f3), .int .i64 ((rd_T28 l1 x24_2).f2.f4), .int .i64 ((rd_T28 l1 x24_2).f3.f0), .int .i64 0, .int .i64 0, .int .i64 0, .int .i64 0]) ?_ 8 _ rfl; (with_reducible repeat (first | refine blk_drewN ?_ _ | refine blk_drew ?_ | refine blk_alloc ?_ _)); refine blk_put (cs := #[.int .i64 ((rd_T28 l1 x24_2).f0), .int .i64 ((rd_T28 l1 x24_2).f1), .int .i64 ((rd_T28 l1 x24_2).f2.f0), .int .i64 ((rd_T28 l1 x24_2).f2.f1), .int .i64 ((rd_T28 l1 x24_2).f2.f2), .int .i64 ((rd_T28 l1 x24_2).f2.f3), .int .i64 ((rd_T28 l1 x24_2).f2.f4), .int .i64 0, .int .i64 0, .int .i64 0, .int .i64 0, .int .i64 0]) ?_ 7 _ rfl; (with_reducible repeat (first | refine blk_drewN ?_ _ | refine blk_drew ?_ | refine blk_alloc ?_ _)); refine blk_put (cs := #[.int .i64 ((rd_T28 l1 x24_2).f0), .int .i64 ((rd_T28 l1 x24_2).f1), .int .i64 ((rd_T28 l1 x24_2).f2.f0), .int .i64 ((rd_T28 l1 x24_2).f2.f1), .int .i64 ((rd_T28 l1 x24_2).f2.f2), .int .i64 ((rd_T28 l1 x24_2).f2.f3), .int .i64 0, .int .i64 0, .int .i64 0, .int .i64 0, .int .i64 0, .int .i64 0]) ?_ 6 _ rfl; (with_reducible repeat (first | refine blk_drewN ?_ _ | refine blk_drew ?_ | refine blk_alloc ?_ _)); refine blk_put (cs := #[.int .i64 ((rd_T28 l1 x24_2).f0), .int .i64 ((rd_T28 l1 x24_2).f1), .int .i64 ((rd_T28 l1 x24_2).f2.f0), .int .i64 ((rd_T28 l1 x24_2).f2.f1), .int .i64 ((rd_T28 l1 x24_2).f2.f2), .int .i64 0, .int .i64 0, .int .i64 0, .int .i64 0, .int .i64 0, .int .i64 0, .int .i64 0]) ?_ 5 _ rfl; (with_reducible repeat (first | refine blk_drewN ?_ _ | refine blk_drew ?_ | refine blk_alloc ?_ _)); refine blk_put (cs := #[.int .i64 ((rd_T28 l1 x24_2).f0), .int .i64 ((rd_T28 l1 x24_2).f1), .int .i64 ((rd_T28 l1 x24_2).f2.f0), .int .i64 ((rd_T28 l1 x24_2).f2.f1), .int .i64 0, .int .i64 0, .int .i64 0, .int .i64 0, .int .i64 0, .int .i64 0, .int .i64 0, .int .i64 0]) ?_ 4 _ rfl; (with_reducible repeat (first | refine blk_drewN ?_ _ | refine blk_drew ?_ | refine blk_alloc ?_ _)); refine blk_put (cs := #[.int .i64 ((rd_T28 l1 x24_2).f0), .int .i64 ((rd_T28 l1 x24_2).f1), .int .i64 ((rd_T28 l1 x24_2).f2.f0), .int .i64 0, .int .i64 0, .int .i64 0, .int .i64 0, .int .i64 0, .int .i64 0, .int .i64 0, .int .i64 0, .int .i64 0]) ?_ 3 _ rfl; (with_reducible repeat (first | refine blk_drewN ?_ _ | refine blk_drew ?_ | refine blk_alloc ?_ _)); refine blk_put (cs := #[.int .i64 ((rd_T28 l1 x24_2).f0), .int .i64 ((rd_T28 l1 x24_2).f1), .int .i64 0, .int .i64 0, .int .i64 0, .int .i64 0, .int .i64 0, .int .i64 0, .int .i64 0, .int .i64 0, .int .i64 0, .int .i64 0]) ?_ 2 _ rfl; (with_reducible repeat (first | refine blk_drewN ?_ _ | refine blk_drew ?_ | refine blk_alloc ?_ _)); refine blk_put (cs := #[.int .i64 ((rd_T28 l1 x24_2).f0), .int .i64 0, .int .i64 0, .int .i64 0, .int .i64 0, .int .i64 0, .int .i64 0, .int .i64 0, .int .i64 0, .int .i64 0, .int .i64 0, .int .i64 0]) ?_ 1 _ rfl; (with_reducible repeat (first | refine blk_drewN ?_ _ | refine blk_drew ?_ | refine blk_alloc ?_ _)); refine blk_put (cs := #[.int .i64 0, .int .i64 0, .int .i64 0, .int .i64 0, .int .i64 0, .int .i64 0, .int .i64 0, .int .i64 0, .int .i64 0, .int .i64 0, .int .i64 0, .int .i64 0]) ?_ 0 _ rfl; (with_reducible repeat (first | refine blk_drewN ?_ _ | refine blk_drew ?_ | refine blk_alloc ?_ _)); exact BK305.out⟩
                        have n2_ : Aside0 (Below w.heap.size w ((((((((((((w21.setCell ⟨gb305, 0, none⟩ (.int .i64 ((rd_T28 l1 x24_2).f0))).setCell ⟨gb305, 1, none⟩ (.int .i64 ((rd_T28 l1 x24_2).f1))).setCell ⟨gb305, 2, none⟩ (.int .i64 ((rd_T28 l1 x24_2).f2.f0))).setCell ⟨gb305, 3, none⟩ (.int .i64 ((rd_T28 l1 x24_2).f2.f1))).setCell ⟨gb305, 4, none⟩ (.int .i64 ((rd_T28 l1 x24_2).f2.f2))).setCell ⟨gb305, 5, none⟩ (.int .i64 ((rd_T28 l1 x24_2).f2.f3))).setCell ⟨gb305, 6, none⟩ (.int .i64 ((rd_T28 l1 x24_2).f2.f4))).setCell ⟨gb305, 7, none⟩ (.int .i64 ((rd_T28 l1 x24_2).f3.f0))).setCell ⟨gb305, 8, none⟩ (.int .i64 ((rd_T28 l1 x24_2).f3.f1))).setCell ⟨gb305, 9, none⟩ (.int .i64 ((rd_T28 l1 x24_2).f3.f2))).setCell ⟨gb305, 10, none⟩ (.int .i64 ((rd_T28 l1 x24_2).f3.f3))).setCell ⟨gb305, 11, none⟩ (.int .i64 ((rd_T28 l1 x24_2).f3.f4)))) := ⟨(upB1 HB.out GE305.out)⟩
                        (try clear HO_6)
                        (try clear BK305)
                        (try clear HB)
                        generalize ((((((((((((w21.setCell ⟨gb305, 0, none⟩ (.int .i64 ((rd_T28 l1 x24_2).f0))).setCell ⟨gb305, 1, none⟩ (.int .i64 ((rd_T28 l1 x24_2).f1))).setCell ⟨gb305, 2, none⟩ (.int .i64 ((rd_T28 l1 x24_2).f2.f0))).setCell ⟨gb305, 3, none⟩ (.int .i64 ((rd_T28 l1 x24_2).f2.f1))).setCell ⟨gb305, 4, none⟩ (.int .i64 ((rd_T28 l1 x24_2).f2.f2))).setCell ⟨gb305, 5, none⟩ (.int .i64 ((rd_T28 l1 x24_2).f2.f3))).setCell ⟨gb305, 6, none⟩ (.int .i64 ((rd_T28 l1 x24_2).f2.f4))).setCell ⟨gb305, 7, none⟩ (.int .i64 ((rd_T28 l1 x24_2).f3.f0))).setCell ⟨gb305, 8, none⟩ (.int .i64 ((rd_T28 l1 x24_2).f3.f1))).setCell ⟨gb305, 9, none⟩ (.int .i64 ((rd_T28 l1 x24_2).f3.f2))).setCell ⟨gb305, 10, none⟩ (.int .i64 ((rd_T28 l1 x24_2).f3.f3))).setCell ⟨gb305, 11, none⟩ (.int .i64 ((rd_T28 l1 x24_2).f3.f4))) = w23 at n0_ n1_ n2_ ⊢
                        have HO_6 := n0_
                        have BK305 := n1_
                        have HB := n2_
                        clear n0_ n1_ n2_
                        have n0_ := Aside0.mk (Kd.N_drew HO_6.out)
                        have n1_ := Aside0.mk (blk_drew BK305.out)
                        have n2_ := Aside0.mk (below_drew1 HB.out)
                        clear HO_6
                        clear BK305
                        clear HB
                        have HO_6 := n0_
                        have BK305 := n1_
                        have HB := n2_
                        clear n0_ n1_ n2_
                        obtain ⟨Ao25, co25, eo25⟩ := Kd.N_slice HO_6.out
                        (first | subst eo25 | (injection eo25 with f1_ f2_ f3_; have f4_ := f1_.symm; have f5_ := f3_.symm; clear f1_ f2_ f3_; subst f4_; subst f5_))
                        have p306 : 0 ≤ (x24_2 : Int) := of_decide_eq_true asmB
                        have q306 : x24_2 < (x6_2.length : Int) := of_decide_eq_true asmB
                        obtain ⟨ad306, A306_0, c306_0, e306, hx306_0, hl306_0, hi306_0⟩ := at_L7 (Kd.N_reads' HO_6.out).2.2 x24_2 p306 q306
                        cases e306
                        obtain ⟨ce306, hce306, hMe306, hcc306⟩ := Kd.N_get HO_6.out [] x24_2 p306 (by first | exact q306 | exact of_decide_eq_true asmB | (have e_ := (Kd.N_reads' HO_6.out).1; omega))
                        obtain ⟨ua306_0, uc306_0, rfl, ul306_0, ge306_0⟩ := Kd.FK_slice_open hMe306
                        have hv306_0 := hcc306 0 _ rfl
                        rw [Nat.add_zero, show ((Kd.slice 26 k26)).sz = 1 from rfl, Nat.mul_one] at hv306_0
                        replace hv306_0 := Option.some.inj (hv306_0.symm.trans hx306_0)
                        injection hv306_0 with hva_ hvn_ hvc_
                        rw [hva_] at ge306_0
                        rw [hvc_] at ul306_0
                        have HL306_0 := Aside0.mk (show Kd.V k26 26 _ w.heap.size _ _ (rd_L7 x6_2 x24_2) from Kd.V_mk ul306_0 ge306_0)
                        clear hva_ hvn_ hvc_ ge306_0 ul306_0
                        clear hcc306 hce306
                        have HR306_0 := Aside0.mk hi306_0
                        have HC306_0 := Aside0.mk hl306_0
                        clear hi306_0 hl306_0
                        replace p306 := eq_true p306
                        replace q306 := eq_true q306
                        refine start_ (n := 11) (S := fun w' => w'.cell? ⟨gb305, 0, none⟩ = some (.int .i64 ((rd_T28 l1 x24_2).f0)) ∧ w'.cell? ⟨gb305, 1, none⟩ = some (.int .i64 ((rd_T28 l1 x24_2).f1)) ∧ w'.cell? ⟨gb305, 2, none⟩ = some (.int .i64 ((rd_T28 l1 x24_2).f2.f0)) ∧ w'.cell? ⟨gb305, 3, none⟩ = some (.int .i64 ((rd_T28 l1 x24_2).f2.f1)) ∧ w'.cell? ⟨gb305, 4, none⟩ = some (.int .i64 ((rd_T28 l1 x24_2).f2.f2)) ∧ w'.cell? ⟨gb305, 5, none⟩ = some (.int .i64 ((rd_T28 l1 x24_2).f2.f3)) ∧ w'.cell? ⟨gb305, 6, none⟩ = some (.int .i64 ((rd_T28 l1 x24_2).f2.f4)) ∧ w'.cell? ⟨gb305, 7, none⟩ = some (.int .i64 ((rd_T28 l1 x24_2).f3.f0)) ∧ w'.cell? ⟨gb305, 8, none⟩ = some (.int .i64 ((rd_T28 l1 x24_2).f3.f1)) ∧ w'.cell? ⟨gb305, 9, none⟩ = some (.int .i64 ((rd_T28 l1 x24_2).f3.f2)) ∧ w'.cell? ⟨gb305, 10, none⟩ = some (.int .i64 ((rd_T28 l1 x24_2).f3.f3)) ∧ w'.cell? ⟨gb305, 11, none⟩ = some (.int .i64 ((rd_T28 l1 x24_2).f3.f4)) ∧ w'.cell? (ad306.add (x24_2).toNat) = some (.slice A306_0 (rd_L7 x6_2 x24_2).length c306_0)) (ds := []) #[false, false, false, false, false, false, false, false, false, false, false] (by kernel_rfl) rfl rfl ⟨(blk_cell BK305.out 0).trans rfl, (blk_cell BK305.out 1).trans rfl, (blk_cell BK305.out 2).trans rfl, (blk_cell BK305.out 3).trans rfl, (blk_cell BK305.out 4).trans rfl, (blk_cell BK305.out 5).trans rfl, (blk_cell BK305.out 6).trans rfl, (blk_cell BK305.out 7).trans rfl, (blk_cell BK305.out 8).trans rfl, (blk_cell BK305.out 9).trans rfl, (blk_cell BK305.out 10).trans rfl, (blk_cell BK305.out 11).trans rfl, hx306_0⟩ (fun hHeld => ?_); refine with_tabW impl_versions.tab7 impl_versions.bits7 (fun HT_ HW_ => ?_)
                        generalize w23.drew = w24 at HO_6 BK305 HB HL306_0 HR306_0 hx306_0 hHeld ⊢
                        refine pure_ (i := 0) (N := some 30) (v := ?_) (a' := ?_) #[true, false, false, false, false, false, false, false, false, false, false] rfl rfl (any_of HT_.out (by kernel_rfl)) (fun _ _ _ h => h) (Or.inl ⟨by rfl, ?_⟩) ?_ ?_
                        rotate_left
                        · intro w'
                          go_simp
                          with_reducible rfl
                        rotate_left
                        · simp only [Act.put, List.setIfInBounds_toArray, List.set_cons_zero, List.set_cons_succ, i64_w, i32_w]
                          rfl
                        refine pure_ (i := 1) (N := some 31) (v := ?_) (a' := ?_) #[true, true, false, false, false, false, false, false, false, false, false] rfl rfl (any_of HT_.out (by kernel_rfl)) (fun _ _ _ h => h) (Or.inl ⟨by rfl, ?_⟩) ?_ ?_
                        rotate_left
                        · intro w'
                          go_simp
                          with_reducible rfl
                        rotate_left
                        · simp only [Act.put, List.setIfInBounds_toArray, List.set_cons_zero, List.set_cons_succ, i64_w, i32_w]
                          rfl
                        refine pure_ (i := 2) (N := some 32) (v := ?_) (a' := ?_) #[true, true, true, false, false, false, false, false, false, false, false] rfl rfl (any_of HT_.out (by kernel_rfl)) (fun _ _ _ h => h) (Or.inl ⟨by rfl, ?_⟩) ?_ ?_
                        rotate_left
                        · intro w'
                          go_simp
                          with_reducible rfl
                        rotate_left
                        · simp only [Act.put, List.setIfInBounds_toArray, List.set_cons_zero, List.set_cons_succ, i64_w, i32_w]
                          rfl
                        refine take_ (i := 3) (N := some 33) (v := ?_) (a' := ?_) #[true, true, true, true, false, false, false, false, false, false, false] rfl rfl (take_ofW HT_.out HW_.out (by kernel_rfl)) (fun _ _ _ h => h) (Or.inl ⟨by rfl, ?_⟩) hHeld ?_ ?_
                        rotate_left
                        · rintro w' ⟨s0, s1, s2, s3, s4, s5, s6, s7, s8, s9, s10, s11, s12⟩
                          go_simp
                          with_reducible rfl
                        rotate_left
                        · simp only [Act.put, List.setIfInBounds_toArray, List.set_cons_zero, List.set_cons_succ, i64_w, i32_w]
                          rfl
                        refine take_ (i := 4) (N := some 34) (v := ?_) (a' := ?_) #[true, true, true, true, true, false, false, false, false, false, false] rfl rfl (take_ofW HT_.out HW_.out (by kernel_rfl)) (fun _ _ _ h => h) (Or.inl ⟨by rfl, ?_⟩) hHeld ?_ ?_
                        rotate_left
                        · rintro w' ⟨s0, s1, s2, s3, s4, s5, s6, s7, s8, s9, s10, s11, s12⟩
                          go_simp
                          with_reducible rfl
                        rotate_left
                        · simp only [Act.put, List.setIfInBounds_toArray, List.set_cons_zero, List.set_cons_succ, i64_w, i32_w]
                          rfl
                        refine one_ (i := 5) (N := some 35) #[true, true, true, true, true, true, false, false, false, false, false] rfl rfl (one_of HT_.out (by kernel_rfl)) (by decide) (fun K hK => ?_)
                        refine goes_ Try.func67 (by kernel_rfl) rfl #[.slice A306_0 (rd_L7 x6_2 x24_2).length c306_0, .agg #[.int .i64 ((rd_T28 l1 x24_2).f0), .int .i64 ((rd_T28 l1 x24_2).f1), .int .i64 ((rd_T28 l1 x24_2).f2.f0), .int .i64 ((rd_T28 l1 x24_2).f2.f1), .int .i64 ((rd_T28 l1 x24_2).f2.f2), .int .i64 ((rd_T28 l1 x24_2).f2.f3), .int .i64 ((rd_T28 l1 x24_2).f2.f4), .int .i64 ((rd_T28 l1 x24_2).f3.f0), .int .i64 ((rd_T28 l1 x24_2).f3.f1), .int .i64 ((rd_T28 l1 x24_2).f3.f2), .int .i64 ((rd_T28 l1 x24_2).f3.f3), .int .i64 ((rd_T28 l1 x24_2).f3.f4)]] (by rfl) rfl rfl argsB ?_
                        with_reducible refine (impl_apply.calls k2 _ _ (rd_L7 x6_2 x24_2) ((rd_T28 l1 x24_2).f0) ((rd_T28 l1 x24_2).f1) ((rd_T28 l1 x24_2).f2.f0) ((rd_T28 l1 x24_2).f2.f1) ((rd_T28 l1 x24_2).f2.f2) ((rd_T28 l1 x24_2).f2.f3) ((rd_T28 l1 x24_2).f2.f4) ((rd_T28 l1 x24_2).f3.f0) ((rd_T28 l1 x24_2).f3.f1) ((rd_T28 l1 x24_2).f3.f2) ((rd_T28 l1 x24_2).f3.f3) ((rd_T28 l1 x24_2).f3.f4) t307 true _ ?side1 ?side2 A18.out).mono ?_
                        (case side1 => repeat (first | exact (by repeat (first | (with_reducible exact HR306_0.out) | (with_reducible refine Kd.C_alloc ?_ _) | (with_reducible refine Kd.C_drewN ?_ _) | (with_reducible refine Kd.C_drew ?_) | exact HR306_0.out)) | (with_reducible refine Kd.C_alloc ?_ _) | (with_reducible refine Kd.C_drewN ?_ _) | (with_reducible refine Kd.C_drew ?_)))
                        (case side2 => exact HC306_0.out)
                        rintro e w26 ⟨v308, rfl, ho0, hb⟩
                        have HS12_ := (hb.cell (World.block_lt_of_cell? _ _ (hHeld.2.2.2.2.2.2.2.2.2.2.2.2))).trans (hHeld.2.2.2.2.2.2.2.2.2.2.2.2)
                        refine ⟨_, rfl, ?_⟩
                        have n0_ := Aside0.mk (Kd.N_elder' (by (with_reducible repeat (first | apply Kd.N_alloc | apply Kd.N_drewN | apply Kd.N_drew)); exact HO_6.out) (Kd.R_base ho0) hb)
                        have n1_ := Aside0.mk (Kd.V_elder' (by (with_reducible repeat (first | apply Kd.V_alloc | apply Kd.V_drewN | apply Kd.V_drew)); exact HL306_0.out) (Kd.R_base ho0) hb)
                        have n2_ := Aside0.mk (Kd.R_lower (Kd.R_newM (M := fun k_ => (w.heap.size ≤ k_)) ho0 (below_size (upB1 HB.out GE305.out)) (fun k_ h_ => h_)) (below_size (upB1 HB.out GE305.out)))
                        have n3_ := Aside0.mk (blk_below (g := gb305) (o := .cells #[.int .i64 ((rd_T28 l1 x24_2).f0), .int .i64 ((rd_T28 l1 x24_2).f1), .int .i64 ((rd_T28 l1 x24_2).f2.f0), .int .i64 ((rd_T28 l1 x24_2).f2.f1), .int .i64 ((rd_T28 l1 x24_2).f2.f2), .int .i64 ((rd_T28 l1 x24_2).f2.f3), .int .i64 ((rd_T28 l1 x24_2).f2.f4), .int .i64 ((rd_T28 l1 x24_2).f3.f0), .int .i64 ((rd_T28 l1 x24_2).f3.f1), .int .i64 ((rd_T28 l1 x24_2).f3.f2), .int .i64 ((rd_T28 l1 x24_2).f3.f3), .int .i64 ((rd_T28 l1 x24_2).f3.f4)] 28 (0, 0)) (upK BK305.out) hb)
                        have n4_ := Aside0.mk (Kd.C_below (by repeat (first | (with_reducible exact HR306_0.out) | (with_reducible refine Kd.C_alloc ?_ _) | (with_reducible refine Kd.C_drewN ?_ _) | (with_reducible refine Kd.C_drew ?_) | exact HR306_0.out)) hb)
                        have n5_ := Aside0.mk (below_step (upB1 HB.out GE305.out) hb)
                        clear HO_6
                        clear HL306_0
                        clear BK305
                        clear HR306_0
                        clear HB
                        have HO_6 := n0_
                        have HL306_0 := n1_
                        have HO309 := n2_
                        have BK305 := n3_
                        have HR306_0 := n4_
                        have HB := n5_
                        clear n0_ n1_ n2_ n3_ n4_ n5_
                        (try clear hb)
                        (try clear hk)
                        (try clear ho0)
                        refine hK.out _ _ ⟨(blk_cell BK305.out 0).trans rfl, (blk_cell BK305.out 1).trans rfl, (blk_cell BK305.out 2).trans rfl, (blk_cell BK305.out 3).trans rfl, (blk_cell BK305.out 4).trans rfl, (blk_cell BK305.out 5).trans rfl, (blk_cell BK305.out 6).trans rfl, (blk_cell BK305.out 7).trans rfl, (blk_cell BK305.out 8).trans rfl, (blk_cell BK305.out 9).trans rfl, (blk_cell BK305.out 10).trans rfl, (blk_cell BK305.out 11).trans rfl, HS12_⟩ (fun hHeld => ?_)
                        clear hK K
                        refine norm_ (a' := ?_) ?_ ?_
                        rotate_left
                        · show Act.put _ (some 35) _ = _
                          simp only [Act.put, List.setIfInBounds_toArray, List.set_cons_zero, List.set_cons_succ, i64_w, i32_w]
                          rfl
                        refine pure_ (i := 6) (N := some 29) (v := ?_) (a' := ?_) #[true, true, true, true, true, true, true, false, false, false, false] rfl rfl (any_of HT_.out (by kernel_rfl)) (fun _ _ _ h => h) (Or.inl ⟨by rfl, ?_⟩) ?_ ?_
                        rotate_left
                        · intro w'
                          go_simp
                          with_reducible rfl
                        rotate_left
                        · simp only [Act.put, List.setIfInBounds_toArray, List.set_cons_zero, List.set_cons_succ, i64_w, i32_w]
                          rfl
                        refine pure_ (i := 7) (N := some 36) (v := ?_) (a' := ?_) #[true, true, true, true, true, true, true, true, false, false, false] rfl rfl (any_of HT_.out (by kernel_rfl)) (fun _ _ _ h => h) (Or.inl ⟨by rfl, ?_⟩) ?_ ?_
                        rotate_left
                        · intro w'
                          go_simp
                          with_reducible rfl
                        rotate_left
                        · simp only [Act.put, List.setIfInBounds_toArray, List.set_cons_zero, List.set_cons_succ, i64_w, i32_w]
                          rfl
                        refine pure_ (i := 8) (N := some 37) (v := ?_) (a' := ?_) #[true, true, true, true, true, true, true, true, true, false, false] rfl rfl (any_of HT_.out (by kernel_rfl)) (fun _ _ _ h => h) (Or.inl ⟨by rfl, ?_⟩) ?_ ?_
                        rotate_left
                        · intro w'
                          go_simp
                          with_reducible rfl
                        rotate_left
                        · simp only [Act.put, List.setIfInBounds_toArray, List.set_cons_zero, List.set_cons_succ, i64_w, i32_w]
                          rfl
                        refine pure_ (i := 9) (N := some 9) (v := ?_) (a' := ?_) #[true, true, true, true, true, true, true, true, true, true, false] rfl rfl (any_of HT_.out (by kernel_rfl)) (fun _ _ _ h => h) (Or.inl ⟨by rfl, ?_⟩) ?_ ?_
                        rotate_left
                        · intro w'
                          go_simp
                          with_reducible rfl
                        rotate_left
                        · simp only [Act.put, List.setIfInBounds_toArray, List.set_cons_zero, List.set_cons_succ, i64_w, i32_w]
                          rfl
                        refine pure_ (i := 10) (N := some 10) (v := ?_) (a' := ?_) #[true, true, true, true, true, true, true, true, true, true, true] rfl rfl (any_of HT_.out (by kernel_rfl)) (fun _ _ _ h => h) (Or.inl ⟨by rfl, ?_⟩) ?_ ?_
                        rotate_left
                        · intro w'
                          go_simp
                          with_reducible rfl
                        rotate_left
                        · simp only [Act.put, List.setIfInBounds_toArray, List.set_cons_zero, List.set_cons_succ, i64_w, i32_w]
                          rfl
                        refine done_ (done_of HT_.out (by kernel_rfl)) ?_
                        obtain ⟨Ao28, co28, eo28⟩ := Kd.R_slice HO309.out
                        subst eo28
                        try go_wp2_with (first | ((with_reducible refine gate_builtin (b := .append) (xs := #[.tmp 40, .tmp 42]) rfl ?_); (try (refine gate_guard (by rfl) ?_; dsimp only)); at_builtin; refine Kd.N_append (Kd.slice 26 k26) (w0 := w) w.heap.size rfl (.tmp 40) (.tmp 42) 84 39 (.slice none 0 0) 24 rfl Try.underlying84 info39 rfl (by decide) (by omega) (.slice (some ad306) x6_2.length co25) x6_2 t307 [.slice Ao28 t307.length co28] (fun k_ => (w.heap.size ≤ k_) ∧ k_ ≠ gb305) (fun k_ => ((fun k_ => (w.heap.size ≤ k_) ∧ k_ ≠ gb305)) k_ ∧ some k_ ≠ (.slice (some ad306) x6_2.length co25 : Value).ownBlock) rfl rfl ?aP (fun _ hk => hk) ?aF ?aO ?aB ?aS ?aL ?_; (case aP => exact (Kd.FK_slice_mk (Kd.R_reads' (Kd.R_mono (ok' := (fun k_ => ((fun k_ => (w.heap.size ≤ k_) ∧ k_ ≠ gb305)) k_ ∧ some k_ ≠ (.slice (some ad306) x6_2.length co25 : Value).ownBlock)) (Kd.R_types (Kd.R_apart' (HO309.out) (Kd.N_typed HO_6.out) (by decide)) BK305.out (by decide)) (fun k_ hk => ⟨⟨hk.1.1.1, hk.2⟩, hk.1.2⟩))).2.1 (Kd.R_F (Kd.R_mono (ok' := (fun k_ => ((fun k_ => (w.heap.size ≤ k_) ∧ k_ ≠ gb305)) k_ ∧ some k_ ≠ (.slice (some ad306) x6_2.length co25 : Value).ownBlock)) (Kd.R_types (Kd.R_apart' (HO309.out) (Kd.N_typed HO_6.out) (by decide)) BK305.out (by decide)) (fun k_ hk => ⟨⟨hk.1.1.1, hk.2⟩, hk.1.2⟩))))); (case aB => exact (upB1 HB.out GE305.out)); (case aF => exact (fun k_ hk => ⟨(Nat.le_trans (below_size (upB1 HB.out GE305.out)) hk), Kd.freshB (g := gb305) (o := .cells #[.int .i64 ((rd_T28 l1 x24_2).f0), .int .i64 ((rd_T28 l1 x24_2).f1), .int .i64 ((rd_T28 l1 x24_2).f2.f0), .int .i64 ((rd_T28 l1 x24_2).f2.f1), .int .i64 ((rd_T28 l1 x24_2).f2.f2), .int .i64 ((rd_T28 l1 x24_2).f2.f3), .int .i64 ((rd_T28 l1 x24_2).f2.f4), .int .i64 ((rd_T28 l1 x24_2).f3.f0), .int .i64 ((rd_T28 l1 x24_2).f3.f1), .int .i64 ((rd_T28 l1 x24_2).f3.f2), .int .i64 ((rd_T28 l1 x24_2).f3.f3), .int .i64 ((rd_T28 l1 x24_2).f3.f4)] 28 (0, 0)) (upK BK305.out) k_ hk⟩)); (case aO => exact (by (with_reducible repeat (first | apply Kd.N_alloc | apply Kd.N_drewN | apply Kd.N_drew)); exact Kd.N_mono HO_6.out (fun _ hk => ⟨hk.1.1, hk.1.2⟩))); (case aS => exact (below_size (upB1 HB.out GE305.out))); (case aL => have := LMc20.out; omega); intro v312 w27 ho hb hg hat; rw [← Ny311.out] at ho; have n0_ := Aside0.mk (blk_grown (g := gb305) (o := .cells #[.int .i64 ((rd_T28 l1 x24_2).f0), .int .i64 ((rd_T28 l1 x24_2).f1), .int .i64 ((rd_T28 l1 x24_2).f2.f0), .int .i64 ((rd_T28 l1 x24_2).f2.f1), .int .i64 ((rd_T28 l1 x24_2).f2.f2), .int .i64 ((rd_T28 l1 x24_2).f2.f3), .int .i64 ((rd_T28 l1 x24_2).f2.f4), .int .i64 ((rd_T28 l1 x24_2).f3.f0), .int .i64 ((rd_T28 l1 x24_2).f3.f1), .int .i64 ((rd_T28 l1 x24_2).f3.f2), .int .i64 ((rd_T28 l1 x24_2).f3.f3), .int .i64 ((rd_T28 l1 x24_2).f3.f4)] 28 (0, 0)) (upK BK305.out) hg (Kd.N_ne HO_6.out BK305.out (by decide))); have n1_ := Aside0.mk (Kd.V_afterv (ok := (fun k_ => (w.heap.size ≤ k_) ∧ some k_ ≠ (.slice Ao28 t307.length co28 : Value).ownBlock ∧ k_ ≠ gb305)) (by (with_reducible repeat (first | apply Kd.V_alloc | apply Kd.V_drewN | apply Kd.V_drew)); exact Kd.V_mono HL306_0.out (fun _ hk => ⟨⟨hk.1.1.1, ⟨hk.2, hk.1.1.2⟩⟩, hk.1.2⟩)) hg hat); have n2_ := Aside0.mk (hb); have n3_ := Aside0.mk (ho); clear BK305; clear HL306_0; clear HB; clear HO_6; clear HO309; have BK305 := n0_; have HL306_0 := n1_; have HB := n2_; have HO313 := n3_; clear n0_ n1_ n2_ n3_; clear ho hb hg hat))
                        go_roundg k2
                        case measure => have := HJ2.out; have := HK2.out; omega
                        case rel => exact ⟨(y311), (wrap64 (x24_2 + 1)), (by first | rfl | (simp; done) | (simp [*]; done)), H', ⟨by have := HJ2.out; have := HK2.out; omega⟩, ⟨by (with_reducible repeat (first | apply Kd.N_alloc | apply Kd.N_drewN | apply Kd.N_drew)); exact Kd.N_mono HO313.out (fun _ hk => hk.1)⟩, ⟨(upB1 HB.out GE305.out)⟩⟩
                      · rw [if_neg c20] at H
                        exact absurd H (by simp)
                    · replace c19 := Bool.eq_false_iff.mpr c19
                      subst c19
                      have H1 : (some (([] : List (List (S26))), false)) = some (r1, r2) := by rw [if_neg (show ¬ (false = true) by decide)] at H; exact H
                      clear H
                      have H := H1
                      clear H1
                      simp only [Option.some.injEq, Prod.mk.injEq] at H
                      obtain ⟨rfl, rfl⟩ := H
                      have p304 : 0 ≤ (x24_2 : Int) := of_decide_eq_true asmB
                      have q304 : x24_2 < (l1.length : Int) := of_decide_eq_true asmB
                      obtain ⟨ad304, e304, hx304_0, hx304_1, hx304_2, hx304_3, hx304_4, hx304_5, hx304_6, hx304_7, hx304_8, hx304_9, hx304_10, hx304_11⟩ := at_T28 HR1.out x24_2 p304 q304
                      cases e304
                      replace hx304_0 := bx HB.out hx304_0
                      replace hx304_1 := bx HB.out hx304_1
                      replace hx304_2 := bx HB.out hx304_2
                      replace hx304_3 := bx HB.out hx304_3
                      replace hx304_4 := bx HB.out hx304_4
                      replace hx304_5 := bx HB.out hx304_5
                      replace hx304_6 := bx HB.out hx304_6
                      replace hx304_7 := bx HB.out hx304_7
                      replace hx304_8 := bx HB.out hx304_8
                      replace hx304_9 := bx HB.out hx304_9
                      replace hx304_10 := bx HB.out hx304_10
                      replace hx304_11 := bx HB.out hx304_11
                      replace p304 := eq_true p304
                      replace q304 := eq_true q304
                      try go_wp2_with (first | ((with_reducible refine gate_dst (N := 8) rfl ?_); (try (refine gate_guard (by rfl) ?_; dsimp only)); refine box_event ?hg (N := 8) ?hd (cs := #[.int .i64 0, .int .i64 0, .int .i64 0, .int .i64 0, .int .i64 0, .int .i64 0, .int .i64 0, .int .i64 0, .int .i64 0, .int .i64 0, .int .i64 0, .int .i64 0]) (t := 28) ?hr ?_; (case hd => rfl); (case hg => rfl); (case hr => first | (go_simp; done) | (go_simp; rfl)); intro gb305 hg w29 hbox hb; have n0_ := Aside0.mk (Kd.N_below (Kd.N_elderB (by (with_reducible repeat (first | apply Kd.N_alloc | apply Kd.N_drewN | apply Kd.N_drew)); exact HO_6.out) gb305 (Nat.le_of_eq hg.symm)) hb); have n1_ := Aside0.mk (below_step (upB HB.out) hb); have n2_ := Aside0.mk (hbox); have n3_ := Aside0.mk ((by rw [hg]; exact (below_size (upB HB.out)) : w.heap.size ≤ gb305)); have n4_ := Aside0.mk ((by rw [hg]; exact (below_size (upB HB.out)) : w.heap.size ≤ gb305)); clear HO_6; clear HB; have HO_6 := n0_; have HB := n1_; have BK305 := n2_; have GW305 := n3_; have GE305 := n4_; clear n0_ n1_ n2_ n3_ n4_; clear hb hbox hg; have hcz30_0 := ci BK305.out 0 0 rfl; have hcz30_1 := ci BK305.out 1 0 rfl; have hcz30_2 := ci BK305.out 2 0 rfl; have hcz30_3 := ci BK305.out 3 0 rfl; have hcz30_4 := ci BK305.out 4 0 rfl; have hcz30_5 := ci BK305.out 5 0 rfl; have hcz30_6 := ci BK305.out 6 0 rfl; have hcz30_7 := ci BK305.out 7 0 rfl; have hcz30_8 := ci BK305.out 8 0 rfl; have hcz30_9 := ci BK305.out 9 0 rfl; have hcz30_10 := ci BK305.out 10 0 rfl; have hcz30_11 := ci BK305.out 11 0 rfl; have hfz30_0 := fun j_ : Nat => blk_frozen BK305.out j_))
                      have n0_ : Aside0 (Kd.N (Kd.slice 26 k26) 39 ((((((((((((w29.setCell ⟨gb305, 0, none⟩ (.int .i64 ((rd_T28 l1 x24_2).f0))).setCell ⟨gb305, 1, none⟩ (.int .i64 ((rd_T28 l1 x24_2).f1))).setCell ⟨gb305, 2, none⟩ (.int .i64 ((rd_T28 l1 x24_2).f2.f0))).setCell ⟨gb305, 3, none⟩ (.int .i64 ((rd_T28 l1 x24_2).f2.f1))).setCell ⟨gb305, 4, none⟩ (.int .i64 ((rd_T28 l1 x24_2).f2.f2))).setCell ⟨gb305, 5, none⟩ (.int .i64 ((rd_T28 l1 x24_2).f2.f3))).setCell ⟨gb305, 6, none⟩ (.int .i64 ((rd_T28 l1 x24_2).f2.f4))).setCell ⟨gb305, 7, none⟩ (.int .i64 ((rd_T28 l1 x24_2).f3.f0))).setCell ⟨gb305, 8, none⟩ (.int .i64 ((rd_T28 l1 x24_2).f3.f1))).setCell ⟨gb305, 9, none⟩ (.int .i64 ((rd_T28 l1 x24_2).f3.f2))).setCell ⟨gb305, 10, none⟩ (.int .i64 ((rd_T28 l1 x24_2).f3.f3))).setCell ⟨gb305, 11, none⟩ (.int .i64 ((rd_T28 l1 x24_2).f3.f4))) w.heap.size (fun k_ => (w.heap.size ≤ k_) ∧ k_ ≠ gb305) u6 x6_2) := ⟨by (with_reducible repeat (first | apply Kd.N_alloc | apply Kd.N_drewN | apply Kd.N_drew)); exact Kd.N_mono (Kd.N_far (p := ⟨gb305, 11, none⟩) (Kd.N_far (p := ⟨gb305, 10, none⟩) (Kd.N_far (p := ⟨gb305, 9, none⟩) (Kd.N_far (p := ⟨gb305, 8, none⟩) (Kd.N_far (p := ⟨gb305, 7, none⟩) (Kd.N_far (p := ⟨gb305, 6, none⟩) (Kd.N_far (p := ⟨gb305, 5, none⟩) (Kd.N_far (p := ⟨gb305, 4, none⟩) (Kd.N_far (p := ⟨gb305, 3, none⟩) (Kd.N_far (p := ⟨gb305, 2, none⟩) (Kd.N_far (p := ⟨gb305, 1, none⟩) (Kd.N_far (p := ⟨gb305, 0, none⟩) (Kd.N_mono HO_6.out (fun k_ hk => (⟨hk, hk.2⟩ : _ ∧ k_ ≠ gb305))) (fun _ hk => hk.2) (.int .i64 ((rd_T28 l1 x24_2).f0))) (fun _ hk => hk.2) (.int .i64 ((rd_T28 l1 x24_2).f1))) (fun _ hk => hk.2) (.int .i64 ((rd_T28 l1 x24_2).f2.f0))) (fun _ hk => hk.2) (.int .i64 ((rd_T28 l1 x24_2).f2.f1))) (fun _ hk => hk.2) (.int .i64 ((rd_T28 l1 x24_2).f2.f2))) (fun _ hk => hk.2) (.int .i64 ((rd_T28 l1 x24_2).f2.f3))) (fun _ hk => hk.2) (.int .i64 ((rd_T28 l1 x24_2).f2.f4))) (fun _ hk => hk.2) (.int .i64 ((rd_T28 l1 x24_2).f3.f0))) (fun _ hk => hk.2) (.int .i64 ((rd_T28 l1 x24_2).f3.f1))) (fun _ hk => hk.2) (.int .i64 ((rd_T28 l1 x24_2).f3.f2))) (fun _ hk => hk.2) (.int .i64 ((rd_T28 l1 x24_2).f3.f3))) (fun _ hk => hk.2) (.int .i64 ((rd_T28 l1 x24_2).f3.f4))) (fun _ hk => ⟨hk.1.1, hk.1.2⟩)⟩
                      have n1_ : Aside0 (((((((((((((w29.setCell ⟨gb305, 0, none⟩ (.int .i64 ((rd_T28 l1 x24_2).f0))).setCell ⟨gb305, 1, none⟩ (.int .i64 ((rd_T28 l1 x24_2).f1))).setCell ⟨gb305, 2, none⟩ (.int .i64 ((rd_T28 l1 x24_2).f2.f0))).setCell ⟨gb305, 3, none⟩ (.int .i64 ((rd_T28 l1 x24_2).f2.f1))).setCell ⟨gb305, 4, none⟩ (.int .i64 ((rd_T28 l1 x24_2).f2.f2))).setCell ⟨gb305, 5, none⟩ (.int .i64 ((rd_T28 l1 x24_2).f2.f3))).setCell ⟨gb305, 6, none⟩ (.int .i64 ((rd_T28 l1 x24_2).f2.f4))).setCell ⟨gb305, 7, none⟩ (.int .i64 ((rd_T28 l1 x24_2).f3.f0))).setCell ⟨gb305, 8, none⟩ (.int .i64 ((rd_T28 l1 x24_2).f3.f1))).setCell ⟨gb305, 9, none⟩ (.int .i64 ((rd_T28 l1 x24_2).f3.f2))).setCell ⟨gb305, 10, none⟩ (.int .i64 ((rd_T28 l1 x24_2).f3.f3))).setCell ⟨gb305, 11, none⟩ (.int .i64 ((rd_T28 l1 x24_2).f3.f4))).heap[gb305]? = some (.cells #[.int .i64 ((rd_T28 l1 x24_2).f0), .int .i64 ((rd_T28 l1 x24_2).f1), .int .i64 ((rd_T28 l1 x24_2).f2.f0), .int .i64 ((rd_T28 l1 x24_2).f2.f1), .int .i64 ((rd_T28 l1 x24_2).f2.f2), .int .i64 ((rd_T28 l1 x24_2).f2.f3), .int .i64 ((rd_T28 l1 x24_2).f2.f4), .int .i64 ((rd_T28 l1 x24_2).f3.f0), .int .i64 ((rd_T28 l1 x24_2).f3.f1), .int .i64 ((rd_T28 l1 x24_2).f3.f2), .int .i64 ((rd_T28 l1 x24_2).f3.f3), .int .i64 ((rd_T28 l1 x24_2).f3.f4)] 28 (0, 0))) := ⟨by (with_reducible repeat (first | refine blk_drewN ?_ _ | refine blk_drew ?_ | refine blk_alloc ?_ _)); refine blk_put (cs := #[.int .i64 ((rd_T28 l1 x24_2).f0), .int .i64 ((rd_T28 l1 x24_2).f1), .int .i64 ((rd_T28 l1 x24_2).f2.f0), .int .i64 ((rd_T28 l1 x24_2).f2.f1), .int .i64 ((rd_T28 l1 x24_2).f2.f2), .int .i64 ((rd_T28 l1 x24_2).f2.f3), .int .i64 ((rd_T28 l1 x24_2).f2.f4), .int .i64 ((rd_T28 l1 x24_2).f3.f0), .int .i64 ((rd_T28 l1 x24_2).f3.f1), .int .i64 ((rd_T28 l1 x24_2).f3.f2), .int .i64 ((rd_T28 l1 x24_2).f3.f3), .int .i64 0]) ?_ 11 _ rfl; (with_reducible repeat (first | refine blk_drewN ?_ _ | refine blk_drew ?_ | refine blk_alloc ?_ _)); refine blk_put (cs := #[.int .i64 ((rd_T28 l1 x24_2).f0), .int .i64 ((rd_T28 l1 x24_2).f1), .int .i64 ((rd_T28 l1 x24_2).f2.f0), .int .i64 ((rd_T28 l1 x24_2).f2.f1), .int .i64 ((rd_T28 l1 x24_2).f2.f2), .int .i64 ((rd_T28 l1 x24_2).f2.f3), .int .i64 ((rd_T28 l1 x24_2).f2.f4), .int .i64 ((rd_T28 l1 x24_2).f3.f0), .int .i64 ((rd_T28 l1 x24_2).f3.f1), .int .i64 ((rd_T28 l1 x24_2).f3.f2), .int .i64 0, .int .i64 0]) ?_ 10 _ rfl; (with_reducible repeat (first | refine blk_drewN ?_ _ | refine blk_drew ?_ | refine blk_alloc ?_ _)); refine blk_put (cs := #[.int .i64 ((rd_T28 l1 x24_2).f0), .int .i64 ((rd_T28 l1 x24_2).f1), .int .i64 ((rd_T28 l1 x24_2).f2.f0), .int .i64 ((rd_T28 l1 x24_2).f2.f1), .int .i64 ((rd_T28 l1 x24_2).f2.f2), .int .i64 ((rd_T28 l1 x24_2).f2.f3), .int .i64 ((rd_T28 l1 x24_2).f2.f4), .int .i64 ((rd_T28 l1 x24_2).f3.f0), .int .i64 ((rd_T28 l1 x24_2).f3.f1), .int .i64 0, .int .i64 0, .int .i64 0]) ?_ 9 _ rfl; (with_reducible repeat (first | refine blk_drewN ?_ _ | refine blk_drew ?_ | refine blk_alloc ?_ _)); refine blk_put (cs := #[.int .i64 ((rd_T28 l1 x24_2).f0), .int .i64 ((rd_T28 l1 x24_2).f1), .int .i64 ((rd_T28 l1 x24_2).f2.f0), .int .i64 ((rd_T28 l1 x24_2).f2.f1), .int .i64 ((rd_T28 l1 x24_2).f2.f2), .int .i64 ((rd_T28 l1 x24_2).f2.f3), .int .i64 ((rd_T28 l1 x24_2).f2.f4), .int .i64 ((rd_T28 l1 x24_2).f3.f0), .int .i64 0, .int .i64 0, .int .i64 0, .int .i64 0]) ?_ 8 _ rfl; (with_reducible repeat (first | refine blk_drewN ?_ _ | refine blk_drew ?_ | refine blk_alloc ?_ _)); refine blk_put (cs := #[.int .i64 ((rd_T28 l1 x24_2).f0), .int .i64 ((rd_T28 l1 x24_2).f1), .int .i64 ((rd_T28 l1 x24_2).f2.f0), .int .i64 ((rd_T28 l1 x24_2).f2.f1), .int .i64 ((rd_T28 l1 x24_2).f2.f2), .int .i64 ((rd_T28 l1 x24_2).f2.f3), .int .i64 ((rd_T28 l1 x24_2).f2.f4), .int .i64 0, .int .i64 0, .int .i64 0, .int .i64 0, .int .i64 0]) ?_ 7 _ rfl; (with_reducible repeat (first | refine blk_drewN ?_ _ | refine blk_drew ?_ | refine blk_alloc ?_ _)); refine blk_put (cs := #[.int .i64 ((rd_T28 l1 x24_2).f0), .int .i64 ((rd_T28 l1 x24_2).f1), .int .i64 ((rd_T28 l1 x24_2).f2.f0), .int .i64 ((rd_T28 l1 x24_2).f2.f1), .int .i64 ((rd_T28 l1 x24_2).f2.f2), .int .i64 ((rd_T28 l1 x24_2).f2.f3), .int .i64 0, .int .i64 0, .int .i64 0, .int .i64 0, .int .i64 0, .int .i64 0]) ?_ 6 _ rfl; (with_reducible repeat (first | refine blk_drewN ?_ _ | refine blk_drew ?_ | refine blk_alloc ?_ _)); refine blk_put (cs := #[.int .i64 ((rd_T28 l1 x24_2).f0), .int .i64 ((rd_T28 l1 x24_2).f1), .int .i64 ((rd_T28 l1 x24_2).f2.f0), .int .i64 ((rd_T28 l1 x24_2).f2.f1), .int .i64 ((rd_T28 l1 x24_2).f2.f2), .int .i64 0, .int .i64 0, .int .i64 0, .int .i64 0, .int .i64 0, .int .i64 0, .int .i64 0]) ?_ 5 _ rfl; (with_reducible repeat (first | refine blk_drewN ?_ _ | refine blk_drew ?_ | refine blk_alloc ?_ _)); refine blk_put (cs := #[.int .i64 ((rd_T28 l1 x24_2).f0), .int .i64 ((rd_T28 l1 x24_2).f1), .int .i64 ((rd_T28 l1 x24_2).f2.f0), .int .i64 ((rd_T28 l1 x24_2).f2.f1), .int .i64 0, .int .i64 0, .int .i64 0, .int .i64 0, .int .i64 0, .int .i64 0, .int .i64 0, .int .i64 0]) ?_ 4 _ rfl; (with_reducible repeat (first | refine blk_drewN ?_ _ | refine blk_drew ?_ | refine blk_alloc ?_ _)); refine blk_put (cs := #[.int .i64 ((rd_T28 l1 x24_2).f0), .int .i64 ((rd_T28 l1 x24_2).f1), .int .i64 ((rd_T28 l1 x24_2).f2.f0), .int .i64 0, .int .i64 0, .int .i64 0, .int .i64 0, .int .i64 0, .int .i64 0, .int .i64 0, .int .i64 0, .int .i64 0]) ?_ 3 _ rfl; (with_reducible repeat (first | refine blk_drewN ?_ _ | refine blk_drew ?_ | refine blk_alloc ?_ _)); refine blk_put (cs := #[.int .i64 ((rd_T28 l1 x24_2).f0), .int .i64 ((rd_T28 l1 x24_2).f1), .int .i64 0, .int .i64 0, .int .i64 0, .int .i64 0, .int .i64 0, .int .i64 0, .int .i64 0, .int .i64 0, .int .i64 0, .int .i64 0]) ?_ 2 _ rfl; (with_reducible repeat (first | refine blk_drewN ?_ _ | refine blk_drew ?_ | refine blk_alloc ?_ _)); refine blk_put (cs := #[.int .i64 ((rd_T28 l1 x24_2).f0), .int .i64 0, .int .i64 0, .int .i64 0, .int .i64 0, .int .i64 0, .int .i64 0, .int .i64 0, .int .i64 0, .int .i64 0, .int .i64 0, .int .i64 0]) ?_ 1 _ rfl; (with_reducible repeat (first | refine blk_drewN ?_ _ | refine blk_drew ?_ | refine blk_alloc ?_ _)); refine blk_put (cs := #[.int .i64 0, .int .i64 0, .int .i64 0, .int .i64 0, .int .i64 0, .int .i64 0, .int .i64 0, .int .i64 0, .int .i64 0, .int .i64 0, .int .i64 0, .int .i64 0]) ?_ 0 _ rfl; (with_reducible repeat (first | refine blk_drewN ?_ _ | refine blk_drew ?_ | refine blk_alloc ?_ _)); exact BK305.out⟩
                      have n2_ : Aside0 (Below w.heap.size w ((((((((((((w29.setCell ⟨gb305, 0, none⟩ (.int .i64 ((rd_T28 l1 x24_2).f0))).setCell ⟨gb305, 1, none⟩ (.int .i64 ((rd_T28 l1 x24_2).f1))).setCell ⟨gb305, 2, none⟩ (.int .i64 ((rd_T28 l1 x24_2).f2.f0))).setCell ⟨gb305, 3, none⟩ (.int .i64 ((rd_T28 l1 x24_2).f2.f1))).setCell ⟨gb305, 4, none⟩ (.int .i64 ((rd_T28 l1 x24_2).f2.f2))).setCell ⟨gb305, 5, none⟩ (.int .i64 ((rd_T28 l1 x24_2).f2.f3))).setCell ⟨gb305, 6, none⟩ (.int .i64 ((rd_T28 l1 x24_2).f2.f4))).setCell ⟨gb305, 7, none⟩ (.int .i64 ((rd_T28 l1 x24_2).f3.f0))).setCell ⟨gb305, 8, none⟩ (.int .i64 ((rd_T28 l1 x24_2).f3.f1))).setCell ⟨gb305, 9, none⟩ (.int .i64 ((rd_T28 l1 x24_2).f3.f2))).setCell ⟨gb305, 10, none⟩ (.int .i64 ((rd_T28 l1 x24_2).f3.f3))).setCell ⟨gb305, 11, none⟩ (.int .i64 ((rd_T28 l1 x24_2).f3.f4)))) := ⟨(upB1 HB.out GE305.out)⟩
                      (try clear HO_6)
                      (try clear BK305)
                      (try clear HB)
                      generalize ((((((((((((w29.setCell ⟨gb305, 0, none⟩ (.int .i64 ((rd_T28 l1 x24_2).f0))).setCell ⟨gb305, 1, none⟩ (.int .i64 ((rd_T28 l1 x24_2).f1))).setCell ⟨gb305, 2, none⟩ (.int .i64 ((rd_T28 l1 x24_2).f2.f0))).setCell ⟨gb305, 3, none⟩ (.int .i64 ((rd_T28 l1 x24_2).f2.f1))).setCell ⟨gb305, 4, none⟩ (.int .i64 ((rd_T28 l1 x24_2).f2.f2))).setCell ⟨gb305, 5, none⟩ (.int .i64 ((rd_T28 l1 x24_2).f2.f3))).setCell ⟨gb305, 6, none⟩ (.int .i64 ((rd_T28 l1 x24_2).f2.f4))).setCell ⟨gb305, 7, none⟩ (.int .i64 ((rd_T28 l1 x24_2).f3.f0))).setCell ⟨gb305, 8, none⟩ (.int .i64 ((rd_T28 l1 x24_2).f3.f1))).setCell ⟨gb305, 9, none⟩ (.int .i64 ((rd_T28 l1 x24_2).f3.f2))).setCell ⟨gb305, 10, none⟩ (.int .i64 ((rd_T28 l1 x24_2).f3.f3))).setCell ⟨gb305, 11, none⟩ (.int .i64 ((rd_T28 l1 x24_2).f3.f4))) = w31 at n0_ n1_ n2_ ⊢
                      have HO_6 := n0_
                      have BK305 := n1_
                      have HB := n2_
                      clear n0_ n1_ n2_
                      have n0_ := Aside0.mk (Kd.N_drew HO_6.out)
                      have n1_ := Aside0.mk (blk_drew BK305.out)
                      have n2_ := Aside0.mk (below_drew1 HB.out)
                      clear HO_6
                      clear BK305
                      clear HB
                      have HO_6 := n0_
                      have BK305 := n1_
                      have HB := n2_
                      clear n0_ n1_ n2_
                      obtain ⟨Ao33, co33, eo33⟩ := Kd.N_slice HO_6.out
                      (first | subst eo33 | (injection eo33 with f1_ f2_ f3_; have f4_ := f1_.symm; have f5_ := f3_.symm; clear f1_ f2_ f3_; subst f4_; subst f5_))
                      have p306 : 0 ≤ (x24_2 : Int) := of_decide_eq_true asmB
                      have q306 : x24_2 < (x6_2.length : Int) := of_decide_eq_true asmB
                      obtain ⟨ad306, A306_0, c306_0, e306, hx306_0, hl306_0, hi306_0⟩ := at_L7 (Kd.N_reads' HO_6.out).2.2 x24_2 p306 q306
                      cases e306
                      obtain ⟨ce306, hce306, hMe306, hcc306⟩ := Kd.N_get HO_6.out [] x24_2 p306 (by first | exact q306 | exact of_decide_eq_true asmB | (have e_ := (Kd.N_reads' HO_6.out).1; omega))
                      obtain ⟨ua306_0, uc306_0, rfl, ul306_0, ge306_0⟩ := Kd.FK_slice_open hMe306
                      have hv306_0 := hcc306 0 _ rfl
                      rw [Nat.add_zero, show ((Kd.slice 26 k26)).sz = 1 from rfl, Nat.mul_one] at hv306_0
                      replace hv306_0 := Option.some.inj (hv306_0.symm.trans hx306_0)
                      injection hv306_0 with hva_ hvn_ hvc_
                      rw [hva_] at ge306_0
                      rw [hvc_] at ul306_0
                      have HL306_0 := Aside0.mk (show Kd.V k26 26 _ w.heap.size _ _ (rd_L7 x6_2 x24_2) from Kd.V_mk ul306_0 ge306_0)
                      clear hva_ hvn_ hvc_ ge306_0 ul306_0
                      clear hcc306 hce306
                      have HR306_0 := Aside0.mk hi306_0
                      have HC306_0 := Aside0.mk hl306_0
                      clear hi306_0 hl306_0
                      replace p306 := eq_true p306
                      replace q306 := eq_true q306
                      refine start_ (n := 11) (S := fun w' => w'.cell? ⟨gb305, 0, none⟩ = some (.int .i64 ((rd_T28 l1 x24_2).f0)) ∧ w'.cell? ⟨gb305, 1, none⟩ = some (.int .i64 ((rd_T28 l1 x24_2).f1)) ∧ w'.cell? ⟨gb305, 2, none⟩ = some (.int .i64 ((rd_T28 l1 x24_2).f2.f0)) ∧ w'.cell? ⟨gb305, 3, none⟩ = some (.int .i64 ((rd_T28 l1 x24_2).f2.f1)) ∧ w'.cell? ⟨gb305, 4, none⟩ = some (.int .i64 ((rd_T28 l1 x24_2).f2.f2)) ∧ w'.cell? ⟨gb305, 5, none⟩ = some (.int .i64 ((rd_T28 l1 x24_2).f2.f3)) ∧ w'.cell? ⟨gb305, 6, none⟩ = some (.int .i64 ((rd_T28 l1 x24_2).f2.f4)) ∧ w'.cell? ⟨gb305, 7, none⟩ = some (.int .i64 ((rd_T28 l1 x24_2).f3.f0)) ∧ w'.cell? ⟨gb305, 8, none⟩ = some (.int .i64 ((rd_T28 l1 x24_2).f3.f1)) ∧ w'.cell? ⟨gb305, 9, none⟩ = some (.int .i64 ((rd_T28 l1 x24_2).f3.f2)) ∧ w'.cell? ⟨gb305, 10, none⟩ = some (.int .i64 ((rd_T28 l1 x24_2).f3.f3)) ∧ w'.cell? ⟨gb305, 11, none⟩ = some (.int .i64 ((rd_T28 l1 x24_2).f3.f4)) ∧ w'.cell? (ad306.add (x24_2).toNat) = some (.slice A306_0 (rd_L7 x6_2 x24_2).length c306_0)) (ds := []) #[false, false, false, false, false, false, false, false, false, false, false] (by kernel_rfl) rfl rfl ⟨(blk_cell BK305.out 0).trans rfl, (blk_cell BK305.out 1).trans rfl, (blk_cell BK305.out 2).trans rfl, (blk_cell BK305.out 3).trans rfl, (blk_cell BK305.out 4).trans rfl, (blk_cell BK305.out 5).trans rfl, (blk_cell BK305.out 6).trans rfl, (blk_cell BK305.out 7).trans rfl, (blk_cell BK305.out 8).trans rfl, (blk_cell BK305.out 9).trans rfl, (blk_cell BK305.out 10).trans rfl, (blk_cell BK305.out 11).trans rfl, hx306_0⟩ (fun hHeld => ?_); refine with_tabW impl_versions.tab7 impl_versions.bits7 (fun HT_ HW_ => ?_)
                      generalize w31.drew = w32 at HO_6 BK305 HB HL306_0 HR306_0 hx306_0 hHeld ⊢
                      refine pure_ (i := 0) (N := some 30) (v := ?_) (a' := ?_) #[true, false, false, false, false, false, false, false, false, false, false] rfl rfl (any_of HT_.out (by kernel_rfl)) (fun _ _ _ h => h) (Or.inl ⟨by rfl, ?_⟩) ?_ ?_
                      rotate_left
                      · intro w'
                        go_simp
                        with_reducible rfl
                      rotate_left
                      · simp only [Act.put, List.setIfInBounds_toArray, List.set_cons_zero, List.set_cons_succ, i64_w, i32_w]
                        rfl
                      refine pure_ (i := 1) (N := some 31) (v := ?_) (a' := ?_) #[true, true, false, false, false, false, false, false, false, false, false] rfl rfl (any_of HT_.out (by kernel_rfl)) (fun _ _ _ h => h) (Or.inl ⟨by rfl, ?_⟩) ?_ ?_
                      rotate_left
                      · intro w'
                        go_simp
                        with_reducible rfl
                      rotate_left
                      · simp only [Act.put, List.setIfInBounds_toArray, List.set_cons_zero, List.set_cons_succ, i64_w, i32_w]
                        rfl
                      refine pure_ (i := 2) (N := some 32) (v := ?_) (a' := ?_) #[true, true, true, false, false, false, false, false, false, false, false] rfl rfl (any_of HT_.out (by kernel_rfl)) (fun _ _ _ h => h) (Or.inl ⟨by rfl, ?_⟩) ?_ ?_
                      rotate_left
                      · intro w'
                        go_simp
                        with_reducible rfl
                      rotate_left
                      · simp only [Act.put, List.setIfInBounds_toArray, List.set_cons_zero, List.set_cons_succ, i64_w, i32_w]
                        rfl
                      refine take_ (i := 3) (N := some 33) (v := ?_) (a' := ?_) #[true, true, true, true, false, false, false, false, false, false, false] rfl rfl (take_ofW HT_.out HW_.out (by kernel_rfl)) (fun _ _ _ h => h) (Or.inl ⟨by rfl, ?_⟩) hHeld ?_ ?_
                      rotate_left
                      · rintro w' ⟨s0, s1, s2, s3, s4, s5, s6, s7, s8, s9, s10, s11, s12⟩
                        go_simp
                        with_reducible rfl
                      rotate_left
                      · simp only [Act.put, List.setIfInBounds_toArray, List.set_cons_zero, List.set_cons_succ, i64_w, i32_w]
                        rfl
                      refine take_ (i := 4) (N := some 34) (v := ?_) (a' := ?_) #[true, true, true, true, true, false, false, false, false, false, false] rfl rfl (take_ofW HT_.out HW_.out (by kernel_rfl)) (fun _ _ _ h => h) (Or.inl ⟨by rfl, ?_⟩) hHeld ?_ ?_
                      rotate_left
                      · rintro w' ⟨s0, s1, s2, s3, s4, s5, s6, s7, s8, s9, s10, s11, s12⟩
                        go_simp
                        with_reducible rfl
                      rotate_left
                      · simp only [Act.put, List.setIfInBounds_toArray, List.set_cons_zero, List.set_cons_succ, i64_w, i32_w]
                        rfl
                      refine one_ (i := 5) (N := some 35) #[true, true, true, true, true, true, false, false, false, false, false] rfl rfl (one_of HT_.out (by kernel_rfl)) (by decide) (fun K hK => ?_)
                      refine goes_ Try.func67 (by kernel_rfl) rfl #[.slice A306_0 (rd_L7 x6_2 x24_2).length c306_0, .agg #[.int .i64 ((rd_T28 l1 x24_2).f0), .int .i64 ((rd_T28 l1 x24_2).f1), .int .i64 ((rd_T28 l1 x24_2).f2.f0), .int .i64 ((rd_T28 l1 x24_2).f2.f1), .int .i64 ((rd_T28 l1 x24_2).f2.f2), .int .i64 ((rd_T28 l1 x24_2).f2.f3), .int .i64 ((rd_T28 l1 x24_2).f2.f4), .int .i64 ((rd_T28 l1 x24_2).f3.f0), .int .i64 ((rd_T28 l1 x24_2).f3.f1), .int .i64 ((rd_T28 l1 x24_2).f3.f2), .int .i64 ((rd_T28 l1 x24_2).f3.f3), .int .i64 ((rd_T28 l1 x24_2).f3.f4)]] (by rfl) rfl rfl argsB ?_
                      with_reducible refine (impl_apply.calls k2 _ _ (rd_L7 x6_2 x24_2) ((rd_T28 l1 x24_2).f0) ((rd_T28 l1 x24_2).f1) ((rd_T28 l1 x24_2).f2.f0) ((rd_T28 l1 x24_2).f2.f1) ((rd_T28 l1 x24_2).f2.f2) ((rd_T28 l1 x24_2).f2.f3) ((rd_T28 l1 x24_2).f2.f4) ((rd_T28 l1 x24_2).f3.f0) ((rd_T28 l1 x24_2).f3.f1) ((rd_T28 l1 x24_2).f3.f2) ((rd_T28 l1 x24_2).f3.f3) ((rd_T28 l1 x24_2).f3.f4) t307 false _ ?side1 ?side2 A18.out).mono ?_
                      (case side1 => repeat (first | exact (by repeat (first | (with_reducible exact HR306_0.out) | (with_reducible refine Kd.C_alloc ?_ _) | (with_reducible refine Kd.C_drewN ?_ _) | (with_reducible refine Kd.C_drew ?_) | exact HR306_0.out)) | (with_reducible refine Kd.C_alloc ?_ _) | (with_reducible refine Kd.C_drewN ?_ _) | (with_reducible refine Kd.C_drew ?_)))
                      (case side2 => exact HC306_0.out)
                      rintro e w34 ⟨v308, rfl, ho0, hb⟩
                      have HS12_ := (hb.cell (World.block_lt_of_cell? _ _ (hHeld.2.2.2.2.2.2.2.2.2.2.2.2))).trans (hHeld.2.2.2.2.2.2.2.2.2.2.2.2)
                      refine ⟨_, rfl, ?_⟩
                      have n0_ := Aside0.mk (Kd.N_elder' (by (with_reducible repeat (first | apply Kd.N_alloc | apply Kd.N_drewN | apply Kd.N_drew)); exact HO_6.out) (Kd.R_base ho0) hb)
                      have n1_ := Aside0.mk (Kd.V_elder' (by (with_reducible repeat (first | apply Kd.V_alloc | apply Kd.V_drewN | apply Kd.V_drew)); exact HL306_0.out) (Kd.R_base ho0) hb)
                      have n2_ := Aside0.mk (Kd.R_lower (Kd.R_newM (M := fun k_ => (w.heap.size ≤ k_)) ho0 (below_size (upB1 HB.out GE305.out)) (fun k_ h_ => h_)) (below_size (upB1 HB.out GE305.out)))
                      have n3_ := Aside0.mk (blk_below (g := gb305) (o := .cells #[.int .i64 ((rd_T28 l1 x24_2).f0), .int .i64 ((rd_T28 l1 x24_2).f1), .int .i64 ((rd_T28 l1 x24_2).f2.f0), .int .i64 ((rd_T28 l1 x24_2).f2.f1), .int .i64 ((rd_T28 l1 x24_2).f2.f2), .int .i64 ((rd_T28 l1 x24_2).f2.f3), .int .i64 ((rd_T28 l1 x24_2).f2.f4), .int .i64 ((rd_T28 l1 x24_2).f3.f0), .int .i64 ((rd_T28 l1 x24_2).f3.f1), .int .i64 ((rd_T28 l1 x24_2).f3.f2), .int .i64 ((rd_T28 l1 x24_2).f3.f3), .int .i64 ((rd_T28 l1 x24_2).f3.f4)] 28 (0, 0)) (upK BK305.out) hb)
                      have n4_ := Aside0.mk (Kd.C_below (by repeat (first | (with_reducible exact HR306_0.out) | (with_reducible refine Kd.C_alloc ?_ _) | (with_reducible refine Kd.C_drewN ?_ _) | (with_reducible refine Kd.C_drew ?_) | exact HR306_0.out)) hb)
                      have n5_ := Aside0.mk (below_step (upB1 HB.out GE305.out) hb)
                      clear HO_6
                      clear HL306_0
                      clear BK305
                      clear HR306_0
                      clear HB
                      have HO_6 := n0_
                      have HL306_0 := n1_
                      have HO309 := n2_
                      have BK305 := n3_
                      have HR306_0 := n4_
                      have HB := n5_
                      clear n0_ n1_ n2_ n3_ n4_ n5_
                      (try clear hb)
                      (try clear hk)
                      (try clear ho0)
                      refine hK.out _ _ ⟨(blk_cell BK305.out 0).trans rfl, (blk_cell BK305.out 1).trans rfl, (blk_cell BK305.out 2).trans rfl, (blk_cell BK305.out 3).trans rfl, (blk_cell BK305.out 4).trans rfl, (blk_cell BK305.out 5).trans rfl, (blk_cell BK305.out 6).trans rfl, (blk_cell BK305.out 7).trans rfl, (blk_cell BK305.out 8).trans rfl, (blk_cell BK305.out 9).trans rfl, (blk_cell BK305.out 10).trans rfl, (blk_cell BK305.out 11).trans rfl, HS12_⟩ (fun hHeld => ?_)
                      clear hK K
                      refine norm_ (a' := ?_) ?_ ?_
                      rotate_left
                      · show Act.put _ (some 35) _ = _
                        simp only [Act.put, List.setIfInBounds_toArray, List.set_cons_zero, List.set_cons_succ, i64_w, i32_w]
                        rfl
                      refine pure_ (i := 6) (N := some 29) (v := ?_) (a' := ?_) #[true, true, true, true, true, true, true, false, false, false, false] rfl rfl (any_of HT_.out (by kernel_rfl)) (fun _ _ _ h => h) (Or.inl ⟨by rfl, ?_⟩) ?_ ?_
                      rotate_left
                      · intro w'
                        go_simp
                        with_reducible rfl
                      rotate_left
                      · simp only [Act.put, List.setIfInBounds_toArray, List.set_cons_zero, List.set_cons_succ, i64_w, i32_w]
                        rfl
                      refine pure_ (i := 7) (N := some 36) (v := ?_) (a' := ?_) #[true, true, true, true, true, true, true, true, false, false, false] rfl rfl (any_of HT_.out (by kernel_rfl)) (fun _ _ _ h => h) (Or.inl ⟨by rfl, ?_⟩) ?_ ?_
                      rotate_left
                      · intro w'
                        go_simp
                        with_reducible rfl
                      rotate_left
                      · simp only [Act.put, List.setIfInBounds_toArray, List.set_cons_zero, List.set_cons_succ, i64_w, i32_w]
                        rfl
                      refine pure_ (i := 8) (N := some 37) (v := ?_) (a' := ?_) #[true, true, true, true, true, true, true, true, true, false, false] rfl rfl (any_of HT_.out (by kernel_rfl)) (fun _ _ _ h => h) (Or.inl ⟨by rfl, ?_⟩) ?_ ?_
                      rotate_left
                      · intro w'
                        go_simp
                        with_reducible rfl
                      rotate_left
                      · simp only [Act.put, List.setIfInBounds_toArray, List.set_cons_zero, List.set_cons_succ, i64_w, i32_w]
                        rfl
                      refine pure_ (i := 9) (N := some 9) (v := ?_) (a' := ?_) #[true, true, true, true, true, true, true, true, true, true, false] rfl rfl (any_of HT_.out (by kernel_rfl)) (fun _ _ _ h => h) (Or.inl ⟨by rfl, ?_⟩) ?_ ?_
                      rotate_left
                      · intro w'
                        go_simp
                        with_reducible rfl
                      rotate_left
                      · simp only [Act.put, List.setIfInBounds_toArray, List.set_cons_zero, List.set_cons_succ, i64_w, i32_w]
                        rfl
                      refine pure_ (i := 10) (N := some 10) (v := ?_) (a' := ?_) #[true, true, true, true, true, true, true, true, true, true, true] rfl rfl (any_of HT_.out (by kernel_rfl)) (fun _ _ _ h => h) (Or.inl ⟨by rfl, ?_⟩) ?_ ?_
                      rotate_left
                      · intro w'
                        go_simp
                        with_reducible rfl
                      rotate_left
                      · simp only [Act.put, List.setIfInBounds_toArray, List.set_cons_zero, List.set_cons_succ, i64_w, i32_w]
                        rfl
                      refine done_ (done_of HT_.out (by kernel_rfl)) ?_
                      try go_wp2
                      go_ret2
                      exact ⟨_, by first | rfl | (simp [errW_none, errW_some] <;> rfl) | (simp [*, errW_none, errW_some] <;> rfl), by first | exact Kd.S_nil _ _ _ _ _ | exact Kd.N_nil _ _ _ _ _ | exact Kd.V_nil _ _ _ _ _ | exact Kd.Q_nil _ _ _ _ _ | exact Kd.R_nil _ _ _ _ _, (upB1 HB.out GE305.out)⟩
                  · rw [if_neg c17] at H
                    exact absurd H (by simp)
                · rw [if_neg c16] at H
                  exact absurd H (by simp)
              · rw [if_neg c15] at H
                exact absurd H (by simp)
            · rw [if_neg c14] at H
              have c14b0 : decide (x24_2 < (l1.length : Int)) = false := decide_eq_false c14
              clear c14
              simp only [Option.some.injEq, Prod.mk.injEq] at H
              obtain ⟨rfl, rfl⟩ := H
              go_wp2
              go_ret2
              exact ⟨_, by first | rfl | (simp [errW_none, errW_some] <;> rfl) | (simp [*, errW_none, errW_some] <;> rfl), by (with_reducible repeat (first | apply Kd.N_alloc | apply Kd.N_drewN | apply Kd.N_drew)); exact HO_6.out, (upB HB.out)⟩

/-! ### impl_Leg_78: function 78 -/
def impl_Leg_78.l0 : Nat → List (S26) → List (S26) → Int → Int → Option (Bool)
  | 0, _, _, _, _ => none
  | k + 1, x0, x1, x12, x13 => if x13 < x12 then (if 0 ≤ x13 then (if x13 < (x0.length : Int) then (if x13 < (x1.length : Int) then (if (!(((rd_T26 x0 x13).f0) == ((rd_T26 x1 x13).f0)) || (!(((rd_T26 x0 x13).f1) == ((rd_T26 x1 x13).f1)) || (!(((rd_T26 x0 x13).f2) == ((rd_T26 x1 x13).f2)) || (!(((rd_T26 x0 x13).f3) == ((rd_T26 x1 x13).f3)) || (!(((rd_T26 x0 x13).f4) == ((rd_T26 x1 x13).f4))))))) = true then (some false) else (impl_Leg_78.l0 k x0 x1 x12 (wrap64 (x13 + 1)))) else (none)) else (none)) else (none)) else (some true)
def impl_Leg_78.f (k : Nat) (l0 : List (S26)) (l1 : List (S26)) : Option (Bool) := if (l0.length : Int) = (l1.length : Int) then (impl_Leg_78.l0 k l0 l1 (l0.length : Int) 0) else (some false)
theorem impl_Leg_78.mono_l : ∀ k, (∀ y0 y1 y2 y3, LeO (impl_Leg_78.l0 k y0 y1 y2 y3) (impl_Leg_78.l0 (k + 1) y0 y1 y2 y3))
  | 0 => fun _ _ _ _ r h => by simp [impl_Leg_78.l0] at h
  | k + 1 => by
    have ih0 := impl_Leg_78.mono_l k
    · intro y0 y1 y2 y3
      unfold impl_Leg_78.l0
      repeat' first
      | (with_reducible exact ih0 _ _ _ _)
      | (with_reducible exact LeO.refl _)
      | (with_reducible exact LeO.none _)
      | (with_reducible refine LeO.ite ?_ ?_)
      | (with_reducible refine LeO.bind ?_ (fun _ => ?_))
      | exact ih0 _ _ _ _
      | exact LeO.none _
      | refine LeO.ite ?_ ?_
      | refine LeO.bind ?_ (fun _ => ?_)
theorem impl_Leg_78.mono : ∀ a0 a1 k, LeO (impl_Leg_78.f k a0 a1) (impl_Leg_78.f (k + 1) a0 a1) := by
  intro a0 a1 k
  have ih0 := impl_Leg_78.mono_l k
  unfold impl_Leg_78.f
  repeat' first
      | (with_reducible exact ih0 _ _ _ _)
      | (with_reducible exact LeO.refl _)
      | (with_reducible exact LeO.none _)
      | (with_reducible refine LeO.ite ?_ ?_)
      | (with_reducible refine LeO.bind ?_ (fun _ => ?_))
      | exact ih0 _ _ _ _
      | exact LeO.none _
      | refine LeO.ite ?_ ?_
      | refine LeO.bind ?_ (fun _ => ?_)
set_option maxHeartbeats 8000000 in
set_option maxRecDepth 100000 in
theorem impl_Leg_78.calls (k : Nat) (A0 : Option Addr) (c0 : Nat) (l0 : List (S26)) (A1 : Option Addr) (c1 : Nat) (l1 : List (S26)) (r : Bool) (w : World) (hr0 : Kd.C k26 w A0 l0.length l0) (hc0 : l0.length ≤ c0) (hr1 : Kd.C k26 w A1 l1.length l1) (hc1 : l1.length ≤ c1) (h : impl_Leg_78.f k l0 l1 = some r) :
    Calls Try.prog 78 #[.slice A0 l0.length c0, .slice A1 l1.length c1] w fun e w' => e = .returned (.bool r) ∧ Drawn0 w w' := by
  have hu26 := Try.underlying26
  have HR0 := Aside0.mk hr0
  have HC0 := Aside0.mk hc0
  clear hr0 hc0
  have HR1 := Aside0.mk hr1
  have HC1 := Aside0.mk hc1
  clear hr1 hc1
  have H : (if (l0.length : Int) = (l1.length : Int) then (impl_Leg_78.l0 k l0 l1 (l0.length : Int) 0) else (some false)) = some r := h
  clear h
  by_cases c3 : (l0.length : Int) = (l1.length : Int)
  · rw [if_pos c3] at H
    have c3b0 : ((l0.length : Int) == (l1.length : Int)) = true := beq_iff_eq.mpr c3
    have c3b1 : ((l0.length : Int) != (l1.length : Int)) = false := bne_eq_false_iff_eq.mpr c3
    have c3b2 : (l0.length == l1.length) = true := by first | simpa using c3 | (simp at c3 ⊢; omega)
    clear c3
    have H' := Aside0.mk H
    clear H
    go_enter Try.func78, Try.ntmps78
    go_wp2
    repeat (go_quiet (fail); try go_wp2)
    go_loopg [13] k (fun kq v13 w' => ∃ (x13_1 : Int), v13 = .int .i64 x13_1 ∧ Aside0 (impl_Leg_78.l0 kq l0 l1 (l0.length : Int) x13_1 = some r) ∧ Aside0 (kq ≤ k) ∧ Drawn0 w w')
    case atStart => exact ⟨(0), (by first | rfl | (simp; done) | (simp [*]; done)), H', ⟨Nat.le_refl _⟩, by repeat (first | exact Drawn0.refl _ | apply Drawn0.step)⟩
    case round =>
      clear H'
      try clear c1
      try clear c3
      try clear c3b0
      try clear c3b1
      try clear c3b2
      obtain ⟨x13_1, rfl, HA, HK1, ⟨m1, rfl⟩⟩ := hrel
      cases gk with
      | zero => exact absurd HA.out (by simp [impl_Leg_78.l0])
      | succ k1 =>
        have H := HA.out
        clear HA
        simp only [impl_Leg_78.l0] at H
        by_cases c4 : x13_1 < (l0.length : Int)
        · rw [if_pos c4] at H
          have c4b0 : decide (x13_1 < (l0.length : Int)) = true := decide_eq_true c4
          clear c4
          by_cases c5 : 0 ≤ x13_1
          · rw [if_pos c5] at H
            have c5b0 : decide (0 ≤ x13_1) = true := decide_eq_true c5
            clear c5
            by_cases c6 : x13_1 < (l0.length : Int)
            · rw [if_pos c6] at H
              have c6b0 : decide (x13_1 < (l0.length : Int)) = true := decide_eq_true c6
              clear c6
              by_cases c7 : x13_1 < (l1.length : Int)
              · rw [if_pos c7] at H
                have c7b0 : decide (x13_1 < (l1.length : Int)) = true := decide_eq_true c7
                clear c7
                by_cases c8 : (!(((rd_T26 l0 x13_1).f0) == ((rd_T26 l1 x13_1).f0)) || (!(((rd_T26 l0 x13_1).f1) == ((rd_T26 l1 x13_1).f1)) || (!(((rd_T26 l0 x13_1).f2) == ((rd_T26 l1 x13_1).f2)) || (!(((rd_T26 l0 x13_1).f3) == ((rd_T26 l1 x13_1).f3)) || (!(((rd_T26 l0 x13_1).f4) == ((rd_T26 l1 x13_1).f4))))))) = true
                · rw [if_pos c8] at H
                  have c8b0 : (!(((rd_T26 l0 x13_1).f0) == ((rd_T26 l1 x13_1).f0)) || (!(((rd_T26 l0 x13_1).f1) == ((rd_T26 l1 x13_1).f1)) || (!(((rd_T26 l0 x13_1).f2) == ((rd_T26 l1 x13_1).f2)) || (!(((rd_T26 l0 x13_1).f3) == ((rd_T26 l1 x13_1).f3)) || (!(((rd_T26 l0 x13_1).f4) == ((rd_T26 l1 x13_1).f4))))))) = true := c8
                  clear c8
                  obtain rfl := Option.some.inj H
                  have p314 : 0 ≤ (x13_1 : Int) := of_decide_eq_true asmB
                  have q314 : x13_1 < (l0.length : Int) := of_decide_eq_true asmB
                  obtain ⟨ad314, e314, hx314_0, hx314_1, hx314_2, hx314_3, hx314_4⟩ := at_T26 HR0.out x13_1 p314 q314
                  cases e314
                  replace p314 := eq_true p314
                  replace q314 := eq_true q314
                  have p315 : 0 ≤ (x13_1 : Int) := of_decide_eq_true asmB
                  have q315 : x13_1 < (l1.length : Int) := of_decide_eq_true asmB
                  obtain ⟨ad315, e315, hx315_0, hx315_1, hx315_2, hx315_3, hx315_4⟩ := at_T26 HR1.out x13_1 p315 q315
                  cases e315
                  replace p315 := eq_true p315
                  replace q315 := eq_true q315
                  go_wp2
                  repeat (go_quiet (fail); try go_wp2)
                  go_ret
                  exact ⟨by first | rfl | (simp; done) | (simp [*]; done), by repeat (first | exact Drawn0.refl _ | apply Drawn0.step)⟩
                · rw [if_neg c8] at H
                  have c8b0 : (!(((rd_T26 l0 x13_1).f0) == ((rd_T26 l1 x13_1).f0)) || (!(((rd_T26 l0 x13_1).f1) == ((rd_T26 l1 x13_1).f1)) || (!(((rd_T26 l0 x13_1).f2) == ((rd_T26 l1 x13_1).f2)) || (!(((rd_T26 l0 x13_1).f3) == ((rd_T26 l1 x13_1).f3)) || (!(((rd_T26 l0 x13_1).f4) == ((rd_T26 l1 x13_1).f4))))))) = false := by simpa using c8
                  clear c8
                  have H' := Aside0.mk H
                  clear H
                  have p314 : 0 ≤ (x13_1 : Int) := of_decide_eq_true asmB
                  have q314 : x13_1 < (l0.length : Int) := of_decide_eq_true asmB
                  obtain ⟨ad314, e314, hx314_0, hx314_1, hx314_2, hx314_3, hx314_4⟩ := at_T26 HR0.out x13_1 p314 q314
                  cases e314
                  replace p314 := eq_true p314
                  replace q314 := eq_true q314
                  have p315 : 0 ≤ (x13_1 : Int) := of_decide_eq_true asmB
                  have q315 : x13_1 < (l1.length : Int) := of_decide_eq_true asmB
                  obtain ⟨ad315, e315, hx315_0, hx315_1, hx315_2, hx315_3, hx315_4⟩ := at_T26 HR1.out x13_1 p315 q315
                  cases e315
                  replace p315 := eq_true p315
                  replace q315 := eq_true q315
                  go_wp2
                  repeat (go_quiet (fail); try go_wp2)
                  go_roundg k1
                  case measure => have := HK1.out; omega
                  case rel => exact ⟨(wrap64 (x13_1 + 1)), (by first | rfl | (simp; done) | (simp [*]; done)), H', ⟨by have := HK1.out; omega⟩, by repeat (first | exact Drawn0.refl _ | apply Drawn0.step)⟩
              · rw [if_neg c7] at H
                exact absurd H (by simp)
            · rw [if_neg c6] at H
              exact absurd H (by simp)
          · rw [if_neg c5] at H
            exact absurd H (by simp)
        · rw [if_neg c4] at H
          have c4b0 : decide (x13_1 < (l0.length : Int)) = false := decide_eq_false c4
          clear c4
          obtain rfl := Option.some.inj H
          go_wp2
          repeat (go_quiet (fail); try go_wp2)
          go_ret
          exact ⟨by first | rfl | (simp; done) | (simp [*]; done), by repeat (first | exact Drawn0.refl _ | apply Drawn0.step)⟩
  · rw [if_neg c3] at H
    have c3b0 : ((l0.length : Int) == (l1.length : Int)) = false := beq_eq_false_iff_ne.mpr c3
    have c3b1 : ((l0.length : Int) != (l1.length : Int)) = true := bne_iff_ne.mpr c3
    have c3b2 : (l0.length == l1.length) = false := by first | simpa using c3 | (simp at c3 ⊢; omega)
    obtain rfl := Option.some.inj H
    go_enter Try.func78, Try.ntmps78
    go_wp2
    repeat (go_quiet (fail); try go_wp2)
    go_ret
    exact ⟨by first | rfl | (simp; done) | (simp [*]; done), by repeat (first | exact Drawn0.refl _ | apply Drawn0.step)⟩

end Go.Proofs.Ytinelmmnajelaaa.QFnExactSameVersions
