/- Contracts of Go functions that FnExactVersionAt reaches: the call computes what the plain function says. No condition. -/
import Derived.Test.YtinelmmnajelaaaQFnExactVersionAtx0
import Derived.Test.YtinelmmnajelaaaQFnExactVersionAtx7
import Derived.Test.YtinelmmnajelaaaQFnExactVersionAtx8
import Derived.Test.YtinelmmnajelaaaQFnExactVersionAtx9
namespace Go.Proofs.Ytinelmmnajelaaa.QFnExactVersionAt
open Go.RowKit Go.Proofs.YtinelmmnajelaaaW.PrintWords Go.Proofs.YtinelmmnajelaaaW.PrintLast Go.Proofs.YtinelmmnajelaaaW.PrintMore
attribute [local go_sem] max2_int min2_int max_two min_two max_three min_three max_four min_four   -- for this text's walks alone
set_option linter.unusedVariables false
set_option linter.unusedSimpArgs false

/-! ### impl_versions: function 69 -/
mutual
def impl_versions.j0 : Nat → List (S26) → List (S28) → List (List (S26)) → Bool → Option ((List (List (S26))) × Bool)
  | 0, _, _, _, _ => none
  | k + 1, x0, x1, x4, x18 => if x18 = true then (some (([] : List (List (S26))), false)) else ((impl_Leg_91.f x0).bind fun t297 => (if x4.length < 5864062014805 then (impl_versions.l0 k (x4 ++ [t297]) x1 (x1.length : Int) 0) else (none)))
def impl_versions.l0 : Nat → List (List (S26)) → List (S28) → Int → Int → Option ((List (List (S26))) × Bool)
  | 0, _, _, _, _ => none
  | k + 1, x6, x22, x23, x24 => if x24 < x23 then (if 0 ≤ x24 then (if x24 < (x22.length : Int) then (if x24 < (x6.length : Int) then ((impl_apply.f k (rd_L6 x6 x24) ((rd_T28 x22 x24).f0) ((rd_T28 x22 x24).f1) ((rd_T28 x22 x24).f2.f0) ((rd_T28 x22 x24).f2.f1) ((rd_T28 x22 x24).f2.f2) ((rd_T28 x22 x24).f2.f3) ((rd_T28 x22 x24).f2.f4) ((rd_T28 x22 x24).f3.f0) ((rd_T28 x22 x24).f3.f1) ((rd_T28 x22 x24).f3.f2) ((rd_T28 x22 x24).f3.f3) ((rd_T28 x22 x24).f3.f4)).bind fun bt306 => (if bt306.2 = true then (if x6.length < 5864062014805 then (impl_versions.l0 k (x6 ++ [bt306.1]) x22 x23 (wrap64 (x24 + 1))) else (none)) else (some (([] : List (List (S26))), false)))) else (none)) else (none)) else (none)) else (some (x6, true))
end
def impl_versions.f (k : Nat) (l0 : List (S26)) (l1 : List (S28)) : Option ((List (List (S26))) × Bool) := (impl_areLegs.f k l0).bind fun t296 => (if t296 = true then (impl_versions.j0 k l0 l1 ([] : List (List (S26))) (decide ((l1.length : Int) > 10))) else (impl_versions.j0 k l0 l1 ([] : List (List (S26))) true))
theorem impl_versions.mono_l : ∀ k, (∀ y0 y1 y2 y3, LeO (impl_versions.j0 k y0 y1 y2 y3) (impl_versions.j0 (k + 1) y0 y1 y2 y3)) ∧ (∀ y0 y1 y2 y3, LeO (impl_versions.l0 k y0 y1 y2 y3) (impl_versions.l0 (k + 1) y0 y1 y2 y3))
  | 0 => ⟨fun _ _ _ _ r h => by simp [impl_versions.j0] at h, fun _ _ _ _ r h => by simp [impl_versions.l0] at h⟩
  | k + 1 => by
    obtain ⟨ih0, ih1⟩ := impl_versions.mono_l k
    refine ⟨?_, ?_⟩
    · intro y0 y1 y2 y3
      unfold impl_versions.j0
      repeat' first
      | (with_reducible exact ih0 _ _ _ _)
      | (with_reducible exact ih1 _ _ _ _)
      | (with_reducible exact impl_apply.mono _ _ _ _ _ _ _ _ _ _ _ _ _ _)
      | (with_reducible exact impl_areLegs.mono _ _)
      | (with_reducible exact LeO.refl _)
      | (with_reducible exact LeO.none _)
      | (with_reducible refine LeO.ite ?_ ?_)
      | (with_reducible refine LeO.bind ?_ (fun _ => ?_))
      | exact ih0 _ _ _ _
      | exact ih1 _ _ _ _
      | exact impl_apply.mono _ _ _ _ _ _ _ _ _ _ _ _ _ _
      | exact impl_areLegs.mono _ _
      | exact LeO.none _
      | refine LeO.ite ?_ ?_
      | refine LeO.bind ?_ (fun _ => ?_)
    · intro y0 y1 y2 y3
      unfold impl_versions.l0
      repeat' first
      | (with_reducible exact ih0 _ _ _ _)
      | (with_reducible exact ih1 _ _ _ _)
      | (with_reducible exact impl_apply.mono _ _ _ _ _ _ _ _ _ _ _ _ _ _)
      | (with_reducible exact impl_areLegs.mono _ _)
      | (with_reducible exact LeO.refl _)
      | (with_reducible exact LeO.none _)
      | (with_reducible refine LeO.ite ?_ ?_)
      | (with_reducible refine LeO.bind ?_ (fun _ => ?_))
      | exact ih0 _ _ _ _
      | exact ih1 _ _ _ _
      | exact impl_apply.mono _ _ _ _ _ _ _ _ _ _ _ _ _ _
      | exact impl_areLegs.mono _ _
      | exact LeO.none _
      | refine LeO.ite ?_ ?_
      | refine LeO.bind ?_ (fun _ => ?_)
theorem impl_versions.mono : ∀ a0 a1 k, LeO (impl_versions.f k a0 a1) (impl_versions.f (k + 1) a0 a1) := by
  intro a0 a1 k
  obtain ⟨ih0, ih1⟩ := impl_versions.mono_l k
  unfold impl_versions.f
  repeat' first
      | (with_reducible exact ih0 _ _ _ _)
      | (with_reducible exact ih1 _ _ _ _)
      | (with_reducible exact impl_apply.mono _ _ _ _ _ _ _ _ _ _ _ _ _ _)
      | (with_reducible exact impl_areLegs.mono _ _)
      | (with_reducible exact LeO.refl _)
      | (with_reducible exact LeO.none _)
      | (with_reducible refine LeO.ite ?_ ?_)
      | (with_reducible refine LeO.bind ?_ (fun _ => ?_))
      | exact ih0 _ _ _ _
      | exact ih1 _ _ _ _
      | exact impl_apply.mono _ _ _ _ _ _ _ _ _ _ _ _ _ _
      | exact impl_areLegs.mono _ _
      | exact LeO.none _
      | refine LeO.ite ?_ ?_
      | refine LeO.bind ?_ (fun _ => ?_)
def impl_versions.T7 : Bool × List (List Nat × List Nat) := (true, [([], []), ([], []), ([0, 1], [0, 1]), ([2], [2]), ([], []), ([3, 4], [3, 4]), ([5], [5]), ([6], [6]), ([6], [6]), ([7, 5, 0, 1, 2, 3, 4, 5, 6, 7], [7]), ([8, 9, 0, 1, 2, 3, 4, 5, 6, 7, 8, 9], [8])])
def impl_versions.B7 : List Nat := [0, 0, 3, 7, 0, 31, 63, 127, 127, 255, 1023]
theorem impl_versions.tab7 : rtab .any (opsOf Try.f69 7) = impl_versions.T7 := by kernel_rfl
theorem impl_versions.bits7 : waitsOk impl_versions.T7.2 impl_versions.B7 = true := by kernel_rfl
set_option maxHeartbeats 8000000 in
set_option maxRecDepth 100000 in
theorem impl_versions.calls (k : Nat) (A0 : Option Addr) (c0 : Nat) (l0 : List (S26)) (A1 : Option Addr) (c1 : Nat) (l1 : List (S28)) (r1 : List (List (S26))) (r2 : Bool) (w : World) (hr0 : Kd.C k26 w A0 l0.length l0) (hc0 : l0.length ≤ c0) (hr1 : Kd.C k28 w A1 l1.length l1) (hc1 : l1.length ≤ c1) (h : impl_versions.f k l0 l1 = some (r1, r2)) :
    Calls Try.prog 69 #[.slice A0 l0.length c0, .slice A1 l1.length c1] w fun e w' => ∃ v0_ : Value, e = .returned (.tuple #[v0_, .bool r2]) ∧ Kd.S (Kd.slice 26 k26) 39 w' w.heap.size (fun _ => True) v0_ r1 ∧ Below w.heap.size w w' := by
  have hu28 := Try.underlying28
  have HR0 := Aside0.mk hr0
  have HC0 := Aside0.mk hc0
  clear hr0 hc0
  have HR1 := Aside0.mk hr1
  have HC1 := Aside0.mk hc1
  clear hr1 hc1
  have HB := Aside0.mk (Below.refl w.heap.size w)
  have H : ((impl_areLegs.f k l0).bind fun t296 => (if t296 = true then (impl_versions.j0 k l0 l1 ([] : List (List (S26))) (decide ((l1.length : Int) > 10))) else (impl_versions.j0 k l0 l1 ([] : List (List (S26))) true))) = some (r1, r2) := h
  clear h
  have HC3 := Aside0.mk H
  clear H
  go_enter Try.func69, Try.ntmps69
  go_upto_region 1 with (fail)
  go_cut [18] (fun v18 wc => ∃ (kq : Nat) (x18_2 : Bool), v18 = .bool x18_2 ∧ Aside0 (impl_versions.j0 kq l0 l1 ([] : List (List (S26))) x18_2 = some (r1, r2)) ∧ Aside0 (kq ≤ k) ∧ Aside0 (Kd.S (Kd.slice 26 k26) 39 wc w.heap.size (fun _ => True) (.slice none 0 0) ([] : List (List (S26)))) ∧ Aside0 (Below w.heap.size w wc))
  case first =>
    have H := HC3.out
    clear HC3
    replace H := Option.bind_eq_some_iff.mp H
    obtain ⟨t296, A40, H⟩ := H
    replace H : (if t296 = true then (impl_versions.j0 k l0 l1 ([] : List (List (S26))) (decide ((l1.length : Int) > 10))) else (impl_versions.j0 k l0 l1 ([] : List (List (S26))) true)) = some (r1, r2) := H
    have A4 := Aside0.mk A40
    clear A40
    by_cases c5 : t296 = true
    · subst c5
      have H1 : (impl_versions.j0 k l0 l1 ([] : List (List (S26))) (decide ((l1.length : Int) > 10))) = some (r1, r2) := by rw [if_pos rfl] at H; exact H
      clear H
      have H := H1
      clear H1
      have H' := Aside0.mk H
      clear H
      go_wp2_with (first | ((with_reducible refine gate_callee (f := 65) rfl ?_); refine goesL_ (some 12) rfl rfl Try.func65 (by kernel_rfl) rfl #[.slice A0 l0.length c0] rfl argsB ?_; (with_reducible refine (impl_areLegs.calls k _ _ l0 true _ ?side1 ?side2 A4.out).mono ?_); (case side1 => repeat (first | exact (Kd.C_below HR0.out HB.out) | (with_reducible refine Kd.C_alloc ?_ _) | (with_reducible refine Kd.C_drewN ?_ _) | (with_reducible refine Kd.C_drew ?_))); (case side2 => exact HC0.out); rintro e w6 ⟨rfl, hb⟩; refine ⟨_, rfl, ?_⟩; have n0_ := Aside0.mk (below_step (upB HB.out) hb); clear HB; have HB := n0_; clear n0_; (try clear hb); (try clear hk)))
      go_meet
      case rel => exact ⟨_, (decide ((l1.length : Int) > 10)), (by first | rfl | (simp; done) | (simp [*]; done)), H', ⟨by first | omega | exact Nat.le_refl _⟩, ⟨by first | exact Kd.S_nil _ _ _ _ _ | exact Kd.N_nil _ _ _ _ _ | exact Kd.V_nil _ _ _ _ _ | exact Kd.Q_nil _ _ _ _ _ | exact Kd.R_nil _ _ _ _ _⟩, ⟨(upB HB.out)⟩⟩
    · replace c5 := Bool.eq_false_iff.mpr c5
      subst c5
      have H1 : (impl_versions.j0 k l0 l1 ([] : List (List (S26))) true) = some (r1, r2) := by rw [if_neg (show ¬ (false = true) by decide)] at H; exact H
      clear H
      have H := H1
      clear H1
      have H' := Aside0.mk H
      clear H
      go_wp2_with (first | ((with_reducible refine gate_callee (f := 65) rfl ?_); refine goesL_ (some 12) rfl rfl Try.func65 (by kernel_rfl) rfl #[.slice A0 l0.length c0] rfl argsB ?_; (with_reducible refine (impl_areLegs.calls k _ _ l0 false _ ?side1 ?side2 A4.out).mono ?_); (case side1 => repeat (first | exact (Kd.C_below HR0.out HB.out) | (with_reducible refine Kd.C_alloc ?_ _) | (with_reducible refine Kd.C_drewN ?_ _) | (with_reducible refine Kd.C_drew ?_))); (case side2 => exact HC0.out); rintro e w7 ⟨rfl, hb⟩; refine ⟨_, rfl, ?_⟩; have n0_ := Aside0.mk (below_step (upB HB.out) hb); clear HB; have HB := n0_; clear n0_; (try clear hb); (try clear hk)))
      go_meet
      case rel => exact ⟨_, (true), (by first | rfl | (simp; done) | (simp [*]; done)), H', ⟨by first | omega | exact Nat.le_refl _⟩, ⟨by first | exact Kd.S_nil _ _ _ _ _ | exact Kd.N_nil _ _ _ _ _ | exact Kd.V_nil _ _ _ _ _ | exact Kd.Q_nil _ _ _ _ _ | exact Kd.R_nil _ _ _ _ _⟩, ⟨(upB HB.out)⟩⟩
  case rest =>
    clear HC3
    try clear c1
    try clear c5
    obtain ⟨kq, x18_2, rfl, HA, HJ2, HO_4, HB⟩ := hcut
    cases kq with
    | zero => exact absurd HA.out (by simp [impl_versions.j0])
    | succ kj2 =>
      have H := HA.out
      clear HA
      simp only [impl_versions.j0] at H
      by_cases c8 : x18_2 = true
      · subst c8
        have H1 : (some (([] : List (List (S26))), false)) = some (r1, r2) := by rw [if_pos rfl] at H; exact H
        clear H
        have H := H1
        clear H1
        simp only [Option.some.injEq, Prod.mk.injEq] at H
        obtain ⟨rfl, rfl⟩ := H
        go_wp2
        go_ret2
        exact ⟨_, by first | rfl | (simp [errW_none, errW_some] <;> rfl) | (simp [*, errW_none, errW_some] <;> rfl), by first | exact Kd.S_nil _ _ _ _ _ | exact Kd.N_nil _ _ _ _ _ | exact Kd.V_nil _ _ _ _ _ | exact Kd.Q_nil _ _ _ _ _ | exact Kd.R_nil _ _ _ _ _, (upB HB.out)⟩
      · replace c8 := Bool.eq_false_iff.mpr c8
        subst c8
        have H1 : ((impl_Leg_91.f l0).bind fun t297 => (if ([] : List (List (S26))).length < 5864062014805 then (impl_versions.l0 kj2 (([] : List (List (S26))) ++ [t297]) l1 (l1.length : Int) 0) else (none))) = some (r1, r2) := by rw [if_neg (show ¬ (false = true) by decide)] at H; exact H
        clear H
        have H := H1
        clear H1
        replace H := Option.bind_eq_some_iff.mp H
        obtain ⟨t297, A90, H⟩ := H
        replace H : (if ([] : List (List (S26))).length < 5864062014805 then (impl_versions.l0 kj2 (([] : List (List (S26))) ++ [t297]) l1 (l1.length : Int) 0) else (none)) = some (r1, r2) := H
        have A9 := Aside0.mk A90
        clear A90
        by_cases c10 : ([] : List (List (S26))).length < 5864062014805
        · rw [if_pos c10] at H
          have LMc10 := Aside0.mk c10
          clear c10
          obtain ⟨y300, hy300⟩ : ∃ y_ : List (List (S26)), y_ = (([] : List (List (S26))) ++ [t297]) := ⟨_, rfl⟩
          replace H : (impl_versions.l0 kj2 y300 l1 (l1.length : Int) 0) = some (r1, r2) := by first | (rw [hy300]; with_reducible exact H) | (have H2_ := (Option.bind_some _ _).symm.trans H; rw [hy300]; with_reducible exact H2_) | (have H2_ := (Option.bind_some _ _).symm.trans H; with_reducible exact H2_) | with_reducible exact H | (rw [hy300]; exact H) | exact H
          have Ny300 := Aside0.mk hy300
          clear hy300
          have H' := Aside0.mk H
          clear H
          go_wp2_with (first | ((with_reducible refine gate_callee (f := 91) rfl ?_); refine goesL_ (some 20) rfl rfl Try.func91 (by kernel_rfl) rfl #[.slice A0 l0.length c0] rfl argsB ?_; (with_reducible refine (impl_Leg_91.calls _ _ l0 t297 _ ?side1 ?side2 A9.out).mono ?_); (case side1 => repeat (first | exact (Kd.C_below HR0.out HB.out) | (with_reducible refine Kd.C_alloc ?_ _) | (with_reducible refine Kd.C_drewN ?_ _) | (with_reducible refine Kd.C_drew ?_))); (case side2 => exact HC0.out); rintro e w11 ⟨v298, rfl, ho0, hb⟩; refine ⟨_, rfl, ?_⟩; have n0_ := Aside0.mk (Kd.S_elder' (by (with_reducible repeat (first | apply Kd.S_alloc | apply Kd.S_drewN | apply Kd.S_drew)); exact HO_4.out) (Kd.R_base ho0) hb); have n1_ := Aside0.mk (Kd.R_lower ho0 (below_size (upB HB.out))); have n2_ := Aside0.mk (below_step (upB HB.out) hb); clear HO_4; clear HB; have HO_4 := n0_; have HO299 := n1_; have HB := n2_; clear n0_ n1_ n2_; (try clear hb); (try clear hk); (try clear ho0); obtain ⟨Ao13, co13, eo13⟩ := Kd.R_slice HO299.out; subst eo13) | ((with_reducible refine gate_dst (N := 21) rfl ?_); refine Kd.S_lits (Kd.slice 26 k26) (w0 := w) w.heap.size 39 ?hg (N := 21) ?hd (xs := (([] : List (List (S26))) ++ [t297])) (inner := [.slice Ao13 t297.length co13]) (ok := fun _ => True) (fun j_ k_ => j_ = 0 ∧ some k_ = (.slice Ao13 t297.length co13 : Value).ownBlock) ?hr (by rfl) ?hp (fun _ _ _ hi_ hj_ => hi_.1.trans hj_.1.symm) (fun _ _ _ => trivial) trivial ?aB ?aS (by simp) ?_; (case hd => rfl); (case hg => rfl); (case hr => first | (go_simp; done) | (go_simp; rfl)); (case hp => (intro j_ x_ hj_; rcases j_ with _ | j_; (obtain rfl : t297 = x_ := (by simpa using hj_)); (exact Kd.M_row (Kd.R_mono (Kd.R_tight rfl (HO299.out)) (fun _ h_ => ⟨rfl, h_⟩))); (simp at hj_))); (case aB => exact (upB HB.out)); (case aS => exact (below_size (upB HB.out))); intro v301 w12 ho hb hg_ hnew_; rw [← Ny300.out] at ho; have n0_ := Aside0.mk (hb); have n1_ := Aside0.mk (ho); clear HB; clear HO_4; clear HO299; have HB := n0_; have HO302 := n1_; clear n0_ n1_; clear ho hb hg_ hnew_))
          go_loopg [6, 24] kj2 (fun kq v6 v24 w' => ∃ (x6_2 : List (List (S26))) (x24_2 : Int), v24 = .int .i64 x24_2 ∧ Aside0 (impl_versions.l0 kq x6_2 l1 (l1.length : Int) x24_2 = some (r1, r2)) ∧ Aside0 (kq ≤ kj2) ∧ Aside0 (Kd.S (Kd.slice 26 k26) 39 w' w.heap.size (fun _ => True) v6 x6_2) ∧ Aside0 (Below w.heap.size w w'))
          case atStart => exact ⟨(y300), (0), (by first | rfl | (simp; done) | (simp [*]; done)), H', ⟨Nat.le_refl _⟩, ⟨by (with_reducible repeat (first | apply Kd.S_alloc | apply Kd.S_drewN | apply Kd.S_drew)); exact HO302.out⟩, ⟨(upB HB.out)⟩⟩
          case round =>
            clear H'
            try clear c1
            try clear c5
            try clear c8
            try clear c10
            obtain ⟨x6_2, x24_2, rfl, HA, HK2, HO_6, HB⟩ := hrel
            cases gk with
            | zero => exact absurd HA.out (by simp [impl_versions.l0])
            | succ k2 =>
              have H := HA.out
              clear HA
              simp only [impl_versions.l0] at H
              by_cases c14 : x24_2 < (l1.length : Int)
              · rw [if_pos c14] at H
                have c14b0 : decide (x24_2 < (l1.length : Int)) = true := decide_eq_true c14
                clear c14
                by_cases c15 : 0 ≤ x24_2
                · rw [if_pos c15] at H
                  have c15b0 : decide (0 ≤ x24_2) = true := decide_eq_true c15
                  clear c15
                  by_cases c16 : x24_2 < (l1.length : Int)
                  · rw [if_pos c16] at H
                    have c16b0 : decide (x24_2 < (l1.length : Int)) = true := decide_eq_true c16
                    clear c16
                    by_cases c17 : x24_2 < (x6_2.length : Int)
                    · rw [if_pos c17] at H
                      have c17b0 : decide (x24_2 < (x6_2.length : Int)) = true := decide_eq_true c17
                      clear c17
                      replace H := Option.bind_eq_some_iff.mp H
                      obtain ⟨⟨t306, t309⟩, A180, H⟩ := H
                      replace H : (if t309 = true then (if x6_2.length < 5864062014805 then (impl_versions.l0 k2 (x6_2 ++ [t306]) l1 (l1.length : Int) (wrap64 (x24_2 + 1))) else (none)) else (some (([] : List (List (S26))), false))) = some (r1, r2) := H
                      have A18 := Aside0.mk A180
                      clear A180
                      by_cases c19 : t309 = true
                      · subst c19
                        have H1 : (if x6_2.length < 5864062014805 then (impl_versions.l0 k2 (x6_2 ++ [t306]) l1 (l1.length : Int) (wrap64 (x24_2 + 1))) else (none)) = some (r1, r2) := by rw [if_pos rfl] at H; exact H
                        clear H
                        have H := H1
                        clear H1
                        by_cases c20 : x6_2.length < 5864062014805
                        · rw [if_pos c20] at H
                          have LMc20 := Aside0.mk c20
                          clear c20
                          obtain ⟨y310, hy310⟩ : ∃ y_ : List (List (S26)), y_ = (x6_2 ++ [t306]) := ⟨_, rfl⟩
                          replace H : (impl_versions.l0 k2 y310 l1 (l1.length : Int) (wrap64 (x24_2 + 1))) = some (r1, r2) := by first | (rw [hy310]; with_reducible exact H) | (have H2_ := (Option.bind_some _ _).symm.trans H; rw [hy310]; with_reducible exact H2_) | (have H2_ := (Option.bind_some _ _).symm.trans H; with_reducible exact H2_) | with_reducible exact H | (rw [hy310]; exact H) | exact H
                          have Ny310 := Aside0.mk hy310
                          clear hy310
                          have H' := Aside0.mk H
                          clear H
                          have p303 : 0 ≤ (x24_2 : Int) := of_decide_eq_true asmB
                          have q303 : x24_2 < (l1.length : Int) := of_decide_eq_true asmB
                          obtain ⟨ad303, e303, hx303_0, hx303_1, hx303_2, hx303_3, hx303_4, hx303_5, hx303_6, hx303_7, hx303_8, hx303_9, hx303_10, hx303_11⟩ := at_T28 HR1.out x24_2 p303 q303
                          cases e303
                          replace hx303_0 := bx HB.out hx303_0
                          replace hx303_1 := bx HB.out hx303_1
                          replace hx303_2 := bx HB.out hx303_2
                          replace hx303_3 := bx HB.out hx303_3
                          replace hx303_4 := bx HB.out hx303_4
                          replace hx303_5 := bx HB.out hx303_5
                          replace hx303_6 := bx HB.out hx303_6
                          replace hx303_7 := bx HB.out hx303_7
                          replace hx303_8 := bx HB.out hx303_8
                          replace hx303_9 := bx HB.out hx303_9
                          replace hx303_10 := bx HB.out hx303_10
                          replace hx303_11 := bx HB.out hx303_11
                          replace p303 := eq_true p303
                          replace q303 := eq_true q303
                          try go_wp2_with (first | ((with_reducible refine gate_dst (N := 8) rfl ?_); (try (refine gate_guard (by rfl) ?_; dsimp only)); refine box_event ?hg (N := 8) ?hd (cs := #[.int .i64 0, .int .i64 0, .int .i64 0, .int .i64 0, .int .i64 0, .int .i64 0, .int .i64 0, .int .i64 0, .int .i64 0, .int .i64 0, .int .i64 0, .int .i64 0]) (t := 28) ?hr ?_; (case hd => rfl); (case hg => rfl); (case hr => first | (go_simp; done) | (go_simp; rfl)); intro gb304 hg w21 hbox hb; have n0_ := Aside0.mk (Kd.S_below (by (with_reducible repeat (first | apply Kd.S_alloc | apply Kd.S_drewN | apply Kd.S_drew)); exact HO_6.out) hb); have n1_ := Aside0.mk (below_step (upB HB.out) hb); have n2_ := Aside0.mk (hbox); have n3_ := Aside0.mk ((by rw [hg]; exact (below_size (upB HB.out)) : w.heap.size ≤ gb304)); have n4_ := Aside0.mk ((by rw [hg]; exact (below_size (upB HB.out)) : w.heap.size ≤ gb304)); clear HO_6; clear HB; have HO_6 := n0_; have HB := n1_; have BK304 := n2_; have GW304 := n3_; have GE304 := n4_; clear n0_ n1_ n2_ n3_ n4_; clear hb hbox hg; have hcz22_0 := ci BK304.out 0 0 rfl; have hcz22_1 := ci BK304.out 1 0 rfl; have hcz22_2 := ci BK304.out 2 0 rfl; have hcz22_3 := ci BK304.out 3 0 rfl; have hcz22_4 := ci BK304.out 4 0 rfl; have hcz22_5 := ci BK304.out 5 0 rfl; have hcz22_6 := ci BK304.out 6 0 rfl; have hcz22_7 := ci BK304.out 7 0 rfl; have hcz22_8 := ci BK304.out 8 0 rfl; have hcz22_9 := ci BK304.out 9 0 rfl; have hcz22_10 := ci BK304.out 10 0 rfl; have hcz22_11 := ci BK304.out 11 0 rfl; have hfz22_0 := fun j_ : Nat => blk_frozen BK304.out j_))
                          have n0_ : Aside0 (Kd.S (Kd.slice 26 k26) 39 ((((((((((((w21.setCell ⟨gb304, 0, none⟩ (.int .i64 ((rd_T28 l1 x24_2).f0))).setCell ⟨gb304, 1, none⟩ (.int .i64 ((rd_T28 l1 x24_2).f1))).setCell ⟨gb304, 2, none⟩ (.int .i64 ((rd_T28 l1 x24_2).f2.f0))).setCell ⟨gb304, 3, none⟩ (.int .i64 ((rd_T28 l1 x24_2).f2.f1))).setCell ⟨gb304, 4, none⟩ (.int .i64 ((rd_T28 l1 x24_2).f2.f2))).setCell ⟨gb304, 5, none⟩ (.int .i64 ((rd_T28 l1 x24_2).f2.f3))).setCell ⟨gb304, 6, none⟩ (.int .i64 ((rd_T28 l1 x24_2).f2.f4))).setCell ⟨gb304, 7, none⟩ (.int .i64 ((rd_T28 l1 x24_2).f3.f0))).setCell ⟨gb304, 8, none⟩ (.int .i64 ((rd_T28 l1 x24_2).f3.f1))).setCell ⟨gb304, 9, none⟩ (.int .i64 ((rd_T28 l1 x24_2).f3.f2))).setCell ⟨gb304, 10, none⟩ (.int .i64 ((rd_T28 l1 x24_2).f3.f3))).setCell ⟨gb304, 11, none⟩ (.int .i64 ((rd_T28 l1 x24_2).f3.f4))) w.heap.size (fun _ => True) u6 x6_2) := ⟨by (with_reducible repeat (first | apply Kd.S_alloc | apply Kd.S_drewN | apply Kd.S_drew)); exact Kd.S_mono (Kd.S_far (p := ⟨gb304, 11, none⟩) (Kd.S_far (p := ⟨gb304, 10, none⟩) (Kd.S_far (p := ⟨gb304, 9, none⟩) (Kd.S_far (p := ⟨gb304, 8, none⟩) (Kd.S_far (p := ⟨gb304, 7, none⟩) (Kd.S_far (p := ⟨gb304, 6, none⟩) (Kd.S_far (p := ⟨gb304, 5, none⟩) (Kd.S_far (p := ⟨gb304, 4, none⟩) (Kd.S_far (p := ⟨gb304, 3, none⟩) (Kd.S_far (p := ⟨gb304, 2, none⟩) (Kd.S_far (p := ⟨gb304, 1, none⟩) (Kd.S_far (p := ⟨gb304, 0, none⟩) (Kd.S_types HO_6.out BK304.out (by decide)) (fun _ hk => hk.2) (.int .i64 ((rd_T28 l1 x24_2).f0))) (fun _ hk => hk.2) (.int .i64 ((rd_T28 l1 x24_2).f1))) (fun _ hk => hk.2) (.int .i64 ((rd_T28 l1 x24_2).f2.f0))) (fun _ hk => hk.2) (.int .i64 ((rd_T28 l1 x24_2).f2.f1))) (fun _ hk => hk.2) (.int .i64 ((rd_T28 l1 x24_2).f2.f2))) (fun _ hk => hk.2) (.int .i64 ((rd_T28 l1 x24_2).f2.f3))) (fun _ hk => hk.2) (.int .i64 ((rd_T28 l1 x24_2).f2.f4))) (fun _ hk => hk.2) (.int .i64 ((rd_T28 l1 x24_2).f3.f0))) (fun _ hk => hk.2) (.int .i64 ((rd_T28 l1 x24_2).f3.f1))) (fun _ hk => hk.2) (.int .i64 ((rd_T28 l1 x24_2).f3.f2))) (fun _ hk => hk.2) (.int .i64 ((rd_T28 l1 x24_2).f3.f3))) (fun _ hk => hk.2) (.int .i64 ((rd_T28 l1 x24_2).f3.f4))) (fun _ hk => trivial)⟩
                          have n1_ : Aside0 (((((((((((((w21.setCell ⟨gb304, 0, none⟩ (.int .i64 ((rd_T28 l1 x24_2).f0))).setCell ⟨gb304, 1, none⟩ (.int .i64 ((rd_T28 l1 x24_2).f1))).setCell ⟨gb304, 2, none⟩ (.int .i64 ((rd_T28 l1 x24_2).f2.f0))).setCell ⟨gb304, 3, none⟩ (.int .i64 ((rd_T28 l1 x24_2).f2.f1))).setCell ⟨gb304, 4, none⟩ (.int .i64 ((rd_T28 l1 x24_2).f2.f2))).setCell ⟨gb304, 5, none⟩ (.int .i64 ((rd_T28 l1 x24_2).f2.f3))).setCell ⟨gb304, 6, none⟩ (.int .i64 ((rd_T28 l1 x24_2).f2.f4))).setCell ⟨gb304, 7, none⟩ (.int .i64 ((rd_T28 l1 x24_2).f3.f0))).setCell ⟨gb304, 8, none⟩ (.int .i64 ((rd_T28 l1 x24_2).f3.f1))).setCell ⟨gb304, 9, none⟩ (.int .i64 ((rd_T28 l1 x24_2).f3.f2))).setCell ⟨gb304, 10, none⟩ (.int .i64 ((rd_T28 l1 x24_2).f3.f3))).setCell ⟨gb304, 11, none⟩ (.int .i64 ((rd_T28 l1 x24_2).f3.f4))).heap[gb304]? = some (.cells #[.int .i64 ((rd_T28 l1 x24_2).f0), .int .i64 ((rd_T28 l1 x24_2).f1), .int .i64 ((rd_T28 l1 x24_2).f2.f0), .int .i64 ((rd_T28 l1 x24_2).f2.f1), .int .i64 ((rd_T28 l1 x24_2).f2.f2), .int .i64 ((rd_T28 l1 x24_2).f2.f3), .int .i64 ((rd_T28 l1 x24_2).f2.f4), .int .i64 ((rd_T28 l1 x24_2).f3.f0), .int .i64 ((rd_T28 l1 x24_2).f3.f1), .int .i64 ((rd_T28 l1 x24_2).f3.f2), .int .i64 ((rd_T28 l1 x24_2).f3.f3), .int .i64 ((rd_T28 l1 x24_2).f3.f4)] 28 (0, 0))) := ⟨by (with_reducible repeat (first | refine blk_drewN ?_ _ | refine blk_drew ?_ | refine blk_alloc ?_ _)); refine blk_put (cs := #[.int .i64 ((rd_T28 l1 x24_2).f0), .int .i64 ((rd_T28 l1 x24_2).f1), .int .i64 ((rd_T28 l1 x24_2).f2.f0), .int .i64 ((rd_T28 l1 x24_2).f2.f1), .int .i64 ((rd_T28 l1 x24_2).f2.f2), .int .i64 ((rd_T28 l1 x24_2).f2.f3), .int .i64 ((rd_T28 l1 x24_2).f2.f4), .int .i64 ((rd_T28 l1 x24_2).f3.f0), .int .i64 ((rd_T28 l1 x24_2).f3.f1), .int .i64 ((rd_T28 l1 x24_2).f3.f2), .int .i64 ((rd_T28 l1 x24_2).f3.f3), .int .i64 0]) ?_ 11 _ rfl; (with_reducible repeat (first | refine blk_drewN ?_ _ | refine blk_drew ?_ | refine blk_alloc ?_ _)); refine blk_put (cs := #[.int .i64 ((rd_T28 l1 x24_2).f0), .int .i64 ((rd_T28 l1 x24_2).f1), .int .i64 ((rd_T28 l1 x24_2).f2.f0), .int .i64 ((rd_T28 l1 x24_2).f2.f1), .int .i64 ((rd_T28 l1 x24_2).f2.f2), .int .i64 ((rd_T28 l1 x24_2).f2.f3), .int .i64 ((rd_T28 l1 x24_2).f2.f4), .int .i64 ((rd_T28 l1 x24_2).f3.f0), .int .i64 ((rd_T28 l1 x24_2).f3.f1), .int .i64 ((rd_T28 l1 x24_2).f3.f2), .int .i64 0, .int .i64 0]) ?_ 10 _ rfl; (with_reducible repeat (first | refine blk_drewN ?_ _ | refine blk_drew ?_ | refine blk_alloc ?_ _)); refine blk_put (cs := #[.int .i64 ((rd_T28 l1 x24_2).f0), .int .i64 ((rd_T28 l1 x24_2).f1), .int .i64 ((rd_T28 l1 x24_2).f2.f0), .int .i64 ((rd_T28 l1 x24_2).f2.f1), .int .i64 ((rd_T28 l1 x24_2).f2.f2), .int .i64 ((rd_T28 l1 x24_2).f2.f3), .int .i64 ((rd_T28 l1 x24_2).f2.f4), .int .i64 ((rd_T28 l1 x24_2).f3.f0), .int .i64 ((rd_T28 l1 x24_2).f3.f1), .int .i64 0, .int .i64 0, .int .i64 0]) ?_ 9 _ rfl; (with_reducible repeat (first | refine blk_drewN ?_ _ | refine blk_drew ?_ | refine blk_alloc ?_ _)); refine blk_put (cs := #[.int .i64 ((rd_T28 l1 x24_2).f0), .int .i64 ((rd_T28 l1 x24_2).f1), .int .i64 ((rd_T28 l1 x24_2).f2.f0), .int .i64 ((rd_T28 l1 x24_2).f2.f1), .int .i64 ((rd_T28 l1 x24_2).f2.f2), .int .i64 ((rd_T28 l1 x24_2).f2.f3), .int .i64 ((rd_T28 l1 x24_2).f2.f4), .int .i64 ((rd_T28 l1 x24_2).f3.f0), .int .i64 0, .int .i64 0, .int .i64 0, .int .i64 0]) ?_ 8 _ rfl; (with_reducible repeat (first | refine blk_drewN ?_ _ | refine blk_drew ?_ | refine blk_alloc ?_ _)); refine blk_put (cs := #[.int .i64 ((rd_T28 l1 x24_2).f0), .int .i64 ((rd_T28 l1 x24_2).f1), .int .i64 ((rd_T28 l1 x24_2).f2.f0), .int .i64 ((rd_T28 l1 x24_2).f2.f1), .int .i64 ((rd_T28 l1 x24_2).f2.f2), .int .i64 ((rd_T28 l1 x24_2).f2.f3), .int .i64 ((rd_T28 l1 x24_2).f2.f4), .int .i64 0, .int .i64 0, .int .i64 0, .int .i64 0, .int .i64 0]) ?_ 7 _ rfl; (with_reducible repeat (first | refine blk_drewN ?_ _ | refine blk_drew ?_ | refine blk_alloc ?_ _)); refine blk_put (cs := #[.int .i64 ((rd_T28 l1 x24_2).f0), .int .i64 ((rd_T28 l1 x24_2).f1), .int .i64 ((rd_T28 l1 x24_2).f2.f0), .int .i64 ((rd_T28 l1 x24_2).f2.f1), .int .i64 ((rd_T28 l1 x24_2).f2.f2), .int .i64 ((rd_T28 l1 x24_2).f2.f3), .int .i64 0, .int .i64 0, .int .i64 0, .int .i64 0, .int .i64 0, .int .i64 0]) ?_ 6 _ rfl; (with_reducible repeat (first | refine blk_drewN ?_ _ | refine blk_drew ?_ | refine blk_alloc ?_ _)); refine blk_put (cs := #[.int .i64 ((rd_T28 l1 x24_2).f0), .int .i64 ((rd_T28 l1 x24_2).f1), .int .i64 ((rd_T28 l1 x24_2).f2.f0), .int .i64 ((rd_T28 l1 x24_2).f2.f1), .int .i64 ((rd_T28 l1 x24_2).f2.f2), .int .i64 0, .int .i64 0, .int .i64 0, .int .i64 0, .int .i64 0, .int .i64 0, .int .i64 0]) ?_ 5 _ rfl; (with_reducible repeat (first | refine blk_drewN ?_ _ | refine blk_drew ?_ | refine blk_alloc ?_ _)); refine blk_put (cs := #[.int .i64 ((rd_T28 l1 x24_2).f0), .int .i64 ((rd_T28 l1 x24_2).f1), .int .i64 ((rd_T28 l1 x24_2).f2.f0), .int .i64 ((rd_T28 l1 x24_2).f2.f1), .int .i64 0, .int .i64 0, .int .i64 0, .int .i64 0, .int .i64 0, .int .i64 0, .int .i64 0, .int .i64 0]) ?_ 4 _ rfl; (with_reducible repeat (first | refine blk_drewN ?_ _ | refine blk_drew ?_ | refine blk_alloc ?_ _)); refine blk_put (cs := #[.int .i64 ((rd_T28 l1 x24_2).f0), .int .i64 ((rd_T28 l1 x24_2).f1), .int .i64 ((rd_T28 l1 x24_2).f2.f0), .int .i64 0, .int .i64 0, .int .i64 0, .int .i64 0, .int .i64 0, .int .i64 0, .int .i64 0, .int .i64 0, .int .i64 0]) ?_ 3 _ rfl; (with_reducible repeat (first | refine blk_drewN ?_ _ | refine blk_drew ?_ | refine blk_alloc ?_ _)); refine blk_put (cs := #[.int .i64 ((rd_T28 l1 x24_2).f0), .int .i64 ((rd_T28 l1 x24_2).f1), .int .i64 0, .int .i64 0, .int .i64 0, .int .i64 0, .int .i64 0, .int .i64 0, .int .i64 0, .int .i64 0, .int .i64 0, .int .i64 0]) ?_ 2 _ rfl; (with_reducible repeat (first | refine blk_drewN ?_ _ | refine blk_drew ?_ | refine blk_alloc ?_ _)); refine blk_put (cs := #[.int .i64 ((rd_T28 l1 x24_2).f0), .int .i64 0, .int .i64 0, .int .i64 0, .int .i64 0, .int .i64 0, .int .i64 0, .int .i64 0, .int .i64 0, .int .i64 0, .int .i64 0, .int .i64 0]) ?_ 1 _ rfl; (with_reducible repeat (first | refine blk_drewN ?_ _ | refine blk_drew ?_ | refine blk_alloc ?_ _)); refine blk_put (cs := #[.int .i64 0, .int .i64 0, .int .i64 0, .int .i64 0, .int .i64 0, .int .i64 0, .int .i64 0, .int .i64 0, .int .i64 0, .int .i64 0, .int .i64 0, .int .i64 0]) ?_ 0 _ rfl; (with_reducible repeat (first | refine blk_drewN ?_ _ | refine blk_drew ?_ | refine blk_alloc ?_ _)); exact BK304.out⟩
                          have n2_ : Aside0 (Below w.heap.size w ((((((((((((w21.setCell ⟨gb304, 0, none⟩ (.int .i64 ((rd_T28 l1 x24_2).f0))).setCell ⟨gb304, 1, none⟩ (.int .i64 ((rd_T28 l1 x24_2).f1))).setCell ⟨gb304, 2, none⟩ (.int .i64 ((rd_T28 l1 x24_2).f2.f0))).setCell ⟨gb304, 3, none⟩ (.int .i64 ((rd_T28 l1 x24_2).f2.f1))).setCell ⟨gb304, 4, none⟩ (.int .i64 ((rd_T28 l1 x24_2).f2.f2))).setCell ⟨gb304, 5, none⟩ (.int .i64 ((rd_T28 l1 x24_2).f2.f3))).setCell ⟨gb304, 6, none⟩ (.int .i64 ((rd_T28 l1 x24_2).f2.f4))).setCell ⟨gb304, 7, none⟩ (.int .i64 ((rd_T28 l1 x24_2).f3.f0))).setCell ⟨gb304, 8, none⟩ (.int .i64 ((rd_T28 l1 x24_2).f3.f1))).setCell ⟨gb304, 9, none⟩ (.int .i64 ((rd_T28 l1 x24_2).f3.f2))).setCell ⟨gb304, 10, none⟩ (.int .i64 ((rd_T28 l1 x24_2).f3.f3))).setCell ⟨gb304, 11, none⟩ (.int .i64 ((rd_T28 l1 x24_2).f3.f4)))) := ⟨(upB1 HB.out GE304.out)⟩
                          (try clear HO_6)
                          (try clear BK304)
                          (try clear HB)
                          generalize ((((((((((((w21.setCell ⟨gb304, 0, none⟩ (.int .i64 ((rd_T28 l1 x24_2).f0))).setCell ⟨gb304, 1, none⟩ (.int .i64 ((rd_T28 l1 x24_2).f1))).setCell ⟨gb304, 2, none⟩ (.int .i64 ((rd_T28 l1 x24_2).f2.f0))).setCell ⟨gb304, 3, none⟩ (.int .i64 ((rd_T28 l1 x24_2).f2.f1))).setCell ⟨gb304, 4, none⟩ (.int .i64 ((rd_T28 l1 x24_2).f2.f2))).setCell ⟨gb304, 5, none⟩ (.int .i64 ((rd_T28 l1 x24_2).f2.f3))).setCell ⟨gb304, 6, none⟩ (.int .i64 ((rd_T28 l1 x24_2).f2.f4))).setCell ⟨gb304, 7, none⟩ (.int .i64 ((rd_T28 l1 x24_2).f3.f0))).setCell ⟨gb304, 8, none⟩ (.int .i64 ((rd_T28 l1 x24_2).f3.f1))).setCell ⟨gb304, 9, none⟩ (.int .i64 ((rd_T28 l1 x24_2).f3.f2))).setCell ⟨gb304, 10, none⟩ (.int .i64 ((rd_T28 l1 x24_2).f3.f3))).setCell ⟨gb304, 11, none⟩ (.int .i64 ((rd_T28 l1 x24_2).f3.f4))) = w23 at n0_ n1_ n2_ ⊢
                          have HO_6 := n0_
                          have BK304 := n1_
                          have HB := n2_
                          clear n0_ n1_ n2_
                          have n0_ := Aside0.mk (Kd.S_drew HO_6.out)
                          have n1_ := Aside0.mk (blk_drew BK304.out)
                          have n2_ := Aside0.mk (below_drew1 HB.out)
                          clear HO_6
                          clear BK304
                          clear HB
                          have HO_6 := n0_
                          have BK304 := n1_
                          have HB := n2_
                          clear n0_ n1_ n2_
                          obtain ⟨Ao25, co25, eo25⟩ := Kd.S_slice HO_6.out
                          (first | subst eo25 | (injection eo25 with f1_ f2_ f3_; have f4_ := f1_.symm; have f5_ := f3_.symm; clear f1_ f2_ f3_; subst f4_; subst f5_))
                          have p305 : 0 ≤ (x24_2 : Int) := of_decide_eq_true asmB
                          have q305 : x24_2 < (x6_2.length : Int) := of_decide_eq_true asmB
                          obtain ⟨ad305, A305_0, c305_0, e305, hx305_0, hl305_0, hi305_0⟩ := at_L6 (Kd.S_reads' HO_6.out).2.2 x24_2 p305 q305
                          cases e305
                          obtain ⟨ce305, hce305, hMe305, hcc305⟩ := Kd.S_get HO_6.out [] x24_2 p305 (by first | exact q305 | exact of_decide_eq_true asmB | (have e_ := (Kd.S_reads' HO_6.out).1; omega))
                          obtain ⟨ve305_0, rfl, ge305_0⟩ := hMe305
                          have hv305_0 := hcc305 0 _ rfl
                          rw [Nat.add_zero, show ((Kd.slice 26 k26)).sz = 1 from rfl, Nat.mul_one] at hv305_0
                          replace hv305_0 := Option.some.inj (hv305_0.symm.trans hx305_0)
                          rw [hv305_0] at ge305_0
                          have HL305_0 := Aside0.mk (show Kd.R k26 26 _ _ _ _ (rd_L6 x6_2 x24_2) from ge305_0)
                          clear hv305_0 ge305_0
                          clear hcc305 hce305
                          have HR305_0 := Aside0.mk hi305_0
                          have HC305_0 := Aside0.mk hl305_0
                          clear hi305_0 hl305_0
                          replace p305 := eq_true p305
                          replace q305 := eq_true q305
                          refine start_ (n := 11) (S := fun w' => w'.cell? ⟨gb304, 0, none⟩ = some (.int .i64 ((rd_T28 l1 x24_2).f0)) ∧ w'.cell? ⟨gb304, 1, none⟩ = some (.int .i64 ((rd_T28 l1 x24_2).f1)) ∧ w'.cell? ⟨gb304, 2, none⟩ = some (.int .i64 ((rd_T28 l1 x24_2).f2.f0)) ∧ w'.cell? ⟨gb304, 3, none⟩ = some (.int .i64 ((rd_T28 l1 x24_2).f2.f1)) ∧ w'.cell? ⟨gb304, 4, none⟩ = some (.int .i64 ((rd_T28 l1 x24_2).f2.f2)) ∧ w'.cell? ⟨gb304, 5, none⟩ = some (.int .i64 ((rd_T28 l1 x24_2).f2.f3)) ∧ w'.cell? ⟨gb304, 6, none⟩ = some (.int .i64 ((rd_T28 l1 x24_2).f2.f4)) ∧ w'.cell? ⟨gb304, 7, none⟩ = some (.int .i64 ((rd_T28 l1 x24_2).f3.f0)) ∧ w'.cell? ⟨gb304, 8, none⟩ = some (.int .i64 ((rd_T28 l1 x24_2).f3.f1)) ∧ w'.cell? ⟨gb304, 9, none⟩ = some (.int .i64 ((rd_T28 l1 x24_2).f3.f2)) ∧ w'.cell? ⟨gb304, 10, none⟩ = some (.int .i64 ((rd_T28 l1 x24_2).f3.f3)) ∧ w'.cell? ⟨gb304, 11, none⟩ = some (.int .i64 ((rd_T28 l1 x24_2).f3.f4)) ∧ w'.cell? (ad305.add (x24_2).toNat) = some (.slice A305_0 (rd_L6 x6_2 x24_2).length c305_0)) (ds := []) #[false, false, false, false, false, false, false, false, false, false, false] (by kernel_rfl) rfl rfl ⟨(blk_cell BK304.out 0).trans rfl, (blk_cell BK304.out 1).trans rfl, (blk_cell BK304.out 2).trans rfl, (blk_cell BK304.out 3).trans rfl, (blk_cell BK304.out 4).trans rfl, (blk_cell BK304.out 5).trans rfl, (blk_cell BK304.out 6).trans rfl, (blk_cell BK304.out 7).trans rfl, (blk_cell BK304.out 8).trans rfl, (blk_cell BK304.out 9).trans rfl, (blk_cell BK304.out 10).trans rfl, (blk_cell BK304.out 11).trans rfl, hx305_0⟩ (fun hHeld => ?_); refine with_tabW impl_versions.tab7 impl_versions.bits7 (fun HT_ HW_ => ?_)
                          generalize w23.drew = w24 at HO_6 BK304 HB HL305_0 HR305_0 hx305_0 hHeld ⊢
                          refine pure_ (i := 0) (N := some 30) (v := ?_) (a' := ?_) #[true, false, false, false, false, false, false, false, false, false, false] rfl rfl (any_of HT_.out (by kernel_rfl)) (fun _ _ _ h => h) (Or.inl ⟨by rfl, ?_⟩) ?_ ?_
                          rotate_left
                          · intro w'
                            go_simp
                            with_reducible rfl
                          rotate_left
                          · simp only [Act.put, List.setIfInBounds_toArray, List.set_cons_zero, List.set_cons_succ, i64_w, i32_w]
                            rfl
                          refine pure_ (i := 1) (N := some 31) (v := ?_) (a' := ?_) #[true, true, false, false, false, false, false, false, false, false, false] rfl rfl (any_of HT_.out (by kernel_rfl)) (fun _ _ _ h => h) (Or.inl ⟨by rfl, ?_⟩) ?_ ?_
                          rotate_left
                          · intro w'
                            go_simp
                            with_reducible rfl
                          rotate_left
                          · simp only [Act.put, List.setIfInBounds_toArray, List.set_cons_zero, List.set_cons_succ, i64_w, i32_w]
                            rfl
                          refine pure_ (i := 2) (N := some 32) (v := ?_) (a' := ?_) #[true, true, true, false, false, false, false, false, false, false, false] rfl rfl (any_of HT_.out (by kernel_rfl)) (fun _ _ _ h => h) (Or.inl ⟨by rfl, ?_⟩) ?_ ?_
                          rotate_left
                          · intro w'
                            go_simp
                            with_reducible rfl
                          rotate_left
                          · simp only [Act.put, List.setIfInBounds_toArray, List.set_cons_zero, List.set_cons_succ, i64_w, i32_w]
                            rfl
                          refine take_ (i := 3) (N := some 33) (v := ?_) (a' := ?_) #[true, true, true, true, false, false, false, false, false, false, false] rfl rfl (take_ofW HT_.out HW_.out (by kernel_rfl)) (fun _ _ _ h => h) (Or.inl ⟨by rfl, ?_⟩) hHeld ?_ ?_
                          rotate_left
                          · rintro w' ⟨s0, s1, s2, s3, s4, s5, s6, s7, s8, s9, s10, s11, s12⟩
                            go_simp
                            with_reducible rfl
                          rotate_left
                          · simp only [Act.put, List.setIfInBounds_toArray, List.set_cons_zero, List.set_cons_succ, i64_w, i32_w]
                            rfl
                          refine take_ (i := 4) (N := some 34) (v := ?_) (a' := ?_) #[true, true, true, true, true, false, false, false, false, false, false] rfl rfl (take_ofW HT_.out HW_.out (by kernel_rfl)) (fun _ _ _ h => h) (Or.inl ⟨by rfl, ?_⟩) hHeld ?_ ?_
                          rotate_left
                          · rintro w' ⟨s0, s1, s2, s3, s4, s5, s6, s7, s8, s9, s10, s11, s12⟩
                            go_simp
                            with_reducible rfl
                          rotate_left
                          · simp only [Act.put, List.setIfInBounds_toArray, List.set_cons_zero, List.set_cons_succ, i64_w, i32_w]
                            rfl
                          refine one_ (i := 5) (N := some 35) #[true, true, true, true, true, true, false, false, false, false, false] rfl rfl (one_of HT_.out (by kernel_rfl)) (by decide) (fun K hK => ?_)
                          refine goes_ Try.func67 (by kernel_rfl) rfl #[.slice A305_0 (rd_L6 x6_2 x24_2).length c305_0, .agg #[.int .i64 ((rd_T28 l1 x24_2).f0), .int .i64 ((rd_T28 l1 x24_2).f1), .int .i64 ((rd_T28 l1 x24_2).f2.f0), .int .i64 ((rd_T28 l1 x24_2).f2.f1), .int .i64 ((rd_T28 l1 x24_2).f2.f2), .int .i64 ((rd_T28 l1 x24_2).f2.f3), .int .i64 ((rd_T28 l1 x24_2).f2.f4), .int .i64 ((rd_T28 l1 x24_2).f3.f0), .int .i64 ((rd_T28 l1 x24_2).f3.f1), .int .i64 ((rd_T28 l1 x24_2).f3.f2), .int .i64 ((rd_T28 l1 x24_2).f3.f3), .int .i64 ((rd_T28 l1 x24_2).f3.f4)]] (by rfl) rfl rfl argsB ?_
                          with_reducible refine (impl_apply.calls k2 _ _ (rd_L6 x6_2 x24_2) ((rd_T28 l1 x24_2).f0) ((rd_T28 l1 x24_2).f1) ((rd_T28 l1 x24_2).f2.f0) ((rd_T28 l1 x24_2).f2.f1) ((rd_T28 l1 x24_2).f2.f2) ((rd_T28 l1 x24_2).f2.f3) ((rd_T28 l1 x24_2).f2.f4) ((rd_T28 l1 x24_2).f3.f0) ((rd_T28 l1 x24_2).f3.f1) ((rd_T28 l1 x24_2).f3.f2) ((rd_T28 l1 x24_2).f3.f3) ((rd_T28 l1 x24_2).f3.f4) t306 true _ ?side1 ?side2 A18.out).mono ?_
                          (case side1 => repeat (first | exact (by repeat (first | (with_reducible exact HR305_0.out) | (with_reducible refine Kd.C_alloc ?_ _) | (with_reducible refine Kd.C_drewN ?_ _) | (with_reducible refine Kd.C_drew ?_) | exact HR305_0.out)) | (with_reducible refine Kd.C_alloc ?_ _) | (with_reducible refine Kd.C_drewN ?_ _) | (with_reducible refine Kd.C_drew ?_)))
                          (case side2 => exact HC305_0.out)
                          rintro e w26 ⟨v307, rfl, ho0, hb⟩
                          have HS12_ := (hb.cell (World.block_lt_of_cell? _ _ (hHeld.2.2.2.2.2.2.2.2.2.2.2.2))).trans (hHeld.2.2.2.2.2.2.2.2.2.2.2.2)
                          refine ⟨_, rfl, ?_⟩
                          have n0_ := Aside0.mk (Kd.S_elder' (by (with_reducible repeat (first | apply Kd.S_alloc | apply Kd.S_drewN | apply Kd.S_drew)); exact HO_6.out) (Kd.R_base ho0) hb)
                          have n1_ := Aside0.mk (Kd.R_elder' (by (with_reducible repeat (first | apply Kd.R_alloc | apply Kd.R_drewN | apply Kd.R_drew)); exact HL305_0.out) (Kd.R_base ho0) hb)
                          have n2_ := Aside0.mk (Kd.R_lower (Kd.R_new' ho0 (Kd.R_lt (by (with_reducible repeat (first | apply Kd.R_alloc | apply Kd.R_drewN | apply Kd.R_drew)); exact HL305_0.out))) (below_size (upB1 HB.out GE304.out)))
                          have n3_ := Aside0.mk (blk_below (g := gb304) (o := .cells #[.int .i64 ((rd_T28 l1 x24_2).f0), .int .i64 ((rd_T28 l1 x24_2).f1), .int .i64 ((rd_T28 l1 x24_2).f2.f0), .int .i64 ((rd_T28 l1 x24_2).f2.f1), .int .i64 ((rd_T28 l1 x24_2).f2.f2), .int .i64 ((rd_T28 l1 x24_2).f2.f3), .int .i64 ((rd_T28 l1 x24_2).f2.f4), .int .i64 ((rd_T28 l1 x24_2).f3.f0), .int .i64 ((rd_T28 l1 x24_2).f3.f1), .int .i64 ((rd_T28 l1 x24_2).f3.f2), .int .i64 ((rd_T28 l1 x24_2).f3.f3), .int .i64 ((rd_T28 l1 x24_2).f3.f4)] 28 (0, 0)) (upK BK304.out) hb)
                          have n4_ := Aside0.mk (Kd.C_below (by repeat (first | (with_reducible exact HR305_0.out) | (with_reducible refine Kd.C_alloc ?_ _) | (with_reducible refine Kd.C_drewN ?_ _) | (with_reducible refine Kd.C_drew ?_) | exact HR305_0.out)) hb)
                          have n5_ := Aside0.mk (below_step (upB1 HB.out GE304.out) hb)
                          clear HO_6
                          clear HL305_0
                          clear BK304
                          clear HR305_0
                          clear HB
                          have HO_6 := n0_
                          have HL305_0 := n1_
                          have HO308 := n2_
                          have BK304 := n3_
                          have HR305_0 := n4_
                          have HB := n5_
                          clear n0_ n1_ n2_ n3_ n4_ n5_
                          (try clear hb)
                          (try clear hk)
                          (try clear ho0)
                          refine hK.out _ _ ⟨(blk_cell BK304.out 0).trans rfl, (blk_cell BK304.out 1).trans rfl, (blk_cell BK304.out 2).trans rfl, (blk_cell BK304.out 3).trans rfl, (blk_cell BK304.out 4).trans rfl, (blk_cell BK304.out 5).trans rfl, (blk_cell BK304.out 6).trans rfl, (blk_cell BK304.out 7).trans rfl, (blk_cell BK304.out 8).trans rfl, (blk_cell BK304.out 9).trans rfl, (blk_cell BK304.out 10).trans rfl, (blk_cell BK304.out 11).trans rfl, HS12_⟩ (fun hHeld => ?_)
                          clear hK K
                          refine norm_ (a' := ?_) ?_ ?_
                          rotate_left
                          · show Act.put _ (some 35) _ = _
                            simp only [Act.put, List.setIfInBounds_toArray, List.set_cons_zero, List.set_cons_succ, i64_w, i32_w]
                            rfl
                          refine pure_ (i := 6) (N := some 29) (v := ?_) (a' := ?_) #[true, true, true, true, true, true, true, false, false, false, false] rfl rfl (any_of HT_.out (by kernel_rfl)) (fun _ _ _ h => h) (Or.inl ⟨by rfl, ?_⟩) ?_ ?_
                          rotate_left
                          · intro w'
                            go_simp
                            with_reducible rfl
                          rotate_left
                          · simp only [Act.put, List.setIfInBounds_toArray, List.set_cons_zero, List.set_cons_succ, i64_w, i32_w]
                            rfl
                          refine pure_ (i := 7) (N := some 36) (v := ?_) (a' := ?_) #[true, true, true, true, true, true, true, true, false, false, false] rfl rfl (any_of HT_.out (by kernel_rfl)) (fun _ _ _ h => h) (Or.inl ⟨by rfl, ?_⟩) ?_ ?_
                          rotate_left
                          · intro w'
                            go_simp
                            with_reducible rfl
                          rotate_left
                          · simp only [Act.put, List.setIfInBounds_toArray, List.set_cons_zero, List.set_cons_succ, i64_w, i32_w]
                            rfl
                          refine pure_ (i := 8) (N := some 37) (v := ?_) (a' := ?_) #[true, true, true, true, true, true, true, true, true, false, false] rfl rfl (any_of HT_.out (by kernel_rfl)) (fun _ _ _ h => h) (Or.inl ⟨by rfl, ?_⟩) ?_ ?_
                          rotate_left
                          · intro w'
                            go_simp
                            with_reducible rfl
                          rotate_left
                          · simp only [Act.put, List.setIfInBounds_toArray, List.set_cons_zero, List.set_cons_succ, i64_w, i32_w]
                            rfl
                          refine pure_ (i := 9) (N := some 9) (v := ?_) (a' := ?_) #[true, true, true, true, true, true, true, true, true, true, false] rfl rfl (any_of HT_.out (by kernel_rfl)) (fun _ _ _ h => h) (Or.inl ⟨by rfl, ?_⟩) ?_ ?_
                          rotate_left
                          · intro w'
                            go_simp
                            with_reducible rfl
                          rotate_left
                          · simp only [Act.put, List.setIfInBounds_toArray, List.set_cons_zero, List.set_cons_succ, i64_w, i32_w]
                            rfl
                          refine pure_ (i := 10) (N := some 10) (v := ?_) (a' := ?_) #[true, true, true, true, true, true, true, true, true, true, true] rfl rfl (any_of HT_.out (by kernel_rfl)) (fun _ _ _ h => h) (Or.inl ⟨by rfl, ?_⟩) ?_ ?_
                          rotate_left
                          · intro w'
                            go_simp
                            with_reducible rfl
                          rotate_left
                          · simp only [Act.put, List.setIfInBounds_toArray, List.set_cons_zero, List.set_cons_succ, i64_w, i32_w]
                            rfl
                          refine done_ (done_of HT_.out (by kernel_rfl)) ?_
                          obtain ⟨Ao28, co28, eo28⟩ := Kd.R_slice HO308.out
                          subst eo28
                          try go_wp2_with (first | ((with_reducible refine gate_builtin (b := .append) (xs := #[.tmp 40, .tmp 42]) rfl ?_); (try (refine gate_guard (by rfl) ?_; dsimp only)); at_builtin; refine Kd.S_append (Kd.slice 26 k26) (w0 := w) w.heap.size rfl (.tmp 40) (.tmp 42) 84 39 (.slice none 0 0) 24 rfl Try.underlying84 info39 rfl (by decide) (by omega) (.slice (some ad305) x6_2.length co25) x6_2 t306 [.slice Ao28 t306.length co28] (fun _ => True) (fun k_ => some k_ = (.slice Ao28 t306.length co28 : Value).ownBlock) rfl rfl ?aP (fun k_ hk_ => ((Kd.R_mono (ok' := fun k_ => ((fun _ => True)) k_ ∧ some k_ ≠ (.slice (some ad305) x6_2.length co25 : Value).ownBlock) (Kd.R_apart' (HO308.out) (Kd.S_typed HO_6.out) (by decide)) (fun k_ hk => ⟨trivial, hk.2⟩))).1 k_ hk_.symm) ?aF ?aO ?aB ?aS ?aL ?_; (case aP => exact Kd.M_row (Kd.R_mono (Kd.R_tight rfl (Kd.R_mono (ok' := fun k_ => ((fun _ => True)) k_ ∧ some k_ ≠ (.slice (some ad305) x6_2.length co25 : Value).ownBlock) (Kd.R_apart' (HO308.out) (Kd.S_typed HO_6.out) (by decide)) (fun k_ hk => ⟨trivial, hk.2⟩))) (fun _ h_ => h_))); (case aB => exact (upB1 HB.out GE304.out)); (case aF => exact (fun _ _ => trivial)); (case aO => exact (by (with_reducible repeat (first | apply Kd.S_alloc | apply Kd.S_drewN | apply Kd.S_drew)); exact Kd.S_mono HO_6.out (fun k_ hk => ⟨trivial, fun e_ => hk.2 e_⟩))); (case aS => exact (below_size (upB1 HB.out GE304.out))); (case aL => have := LMc20.out; omega); intro v311 w27 ho hb hg hat; rw [← Ny310.out] at ho; have n0_ := Aside0.mk (blk_grown (g := gb304) (o := .cells #[.int .i64 ((rd_T28 l1 x24_2).f0), .int .i64 ((rd_T28 l1 x24_2).f1), .int .i64 ((rd_T28 l1 x24_2).f2.f0), .int .i64 ((rd_T28 l1 x24_2).f2.f1), .int .i64 ((rd_T28 l1 x24_2).f2.f2), .int .i64 ((rd_T28 l1 x24_2).f2.f3), .int .i64 ((rd_T28 l1 x24_2).f2.f4), .int .i64 ((rd_T28 l1 x24_2).f3.f0), .int .i64 ((rd_T28 l1 x24_2).f3.f1), .int .i64 ((rd_T28 l1 x24_2).f3.f2), .int .i64 ((rd_T28 l1 x24_2).f3.f3), .int .i64 ((rd_T28 l1 x24_2).f3.f4)] 28 (0, 0)) (upK BK304.out) hg (Kd.S_ne HO_6.out BK304.out (by decide))); have n1_ := Aside0.mk (Kd.R_after (ok := (fun k_ => some k_ ≠ (.slice Ao28 t306.length co28 : Value).ownBlock)) (by (with_reducible repeat (first | apply Kd.R_alloc | apply Kd.R_drewN | apply Kd.R_drew)); exact Kd.R_mono HL305_0.out (fun _ hk => ⟨hk.2, hk.1.2⟩)) hg hat); have n2_ := Aside0.mk (hb); have n3_ := Aside0.mk (ho); clear BK304; clear HL305_0; clear HB; clear HO_6; clear HO308; have BK304 := n0_; have HL305_0 := n1_; have HB := n2_; have HO312 := n3_; clear n0_ n1_ n2_ n3_; clear ho hb hg hat))
                          go_roundg k2
                          case measure => have := HJ2.out; have := HK2.out; omega
                          case rel => exact ⟨(y310), (wrap64 (x24_2 + 1)), (by first | rfl | (simp; done) | (simp [*]; done)), H', ⟨by have := HJ2.out; have := HK2.out; omega⟩, ⟨by (with_reducible repeat (first | apply Kd.S_alloc | apply Kd.S_drewN | apply Kd.S_drew)); exact HO312.out⟩, ⟨(upB1 HB.out GE304.out)⟩⟩
                        · rw [if_neg c20] at H
                          exact absurd H (by simp)
                      · replace c19 := Bool.eq_false_iff.mpr c19
                        subst c19
                        have H1 : (some (([] : List (List (S26))), false)) = some (r1, r2) := by rw [if_neg (show ¬ (false = true) by decide)] at H; exact H
                        clear H
                        have H := H1
                        clear H1
                        simp only [Option.some.injEq, Prod.mk.injEq] at H
                        obtain ⟨rfl, rfl⟩ := H
                        have p303 : 0 ≤ (x24_2 : Int) := of_decide_eq_true asmB
                        have q303 : x24_2 < (l1.length : Int) := of_decide_eq_true asmB
                        obtain ⟨ad303, e303, hx303_0, hx303_1, hx303_2, hx303_3, hx303_4, hx303_5, hx303_6, hx303_7, hx303_8, hx303_9, hx303_10, hx303_11⟩ := at_T28 HR1.out x24_2 p303 q303
                        cases e303
                        replace hx303_0 := bx HB.out hx303_0
                        replace hx303_1 := bx HB.out hx303_1
                        replace hx303_2 := bx HB.out hx303_2
                        replace hx303_3 := bx HB.out hx303_3
                        replace hx303_4 := bx HB.out hx303_4
                        replace hx303_5 := bx HB.out hx303_5
                        replace hx303_6 := bx HB.out hx303_6
                        replace hx303_7 := bx HB.out hx303_7
                        replace hx303_8 := bx HB.out hx303_8
                        replace hx303_9 := bx HB.out hx303_9
                        replace hx303_10 := bx HB.out hx303_10
                        replace hx303_11 := bx HB.out hx303_11
                        replace p303 := eq_true p303
                        replace q303 := eq_true q303
                        try go_wp2_with (first | ((with_reducible refine gate_dst (N := 8) rfl ?_); (try (refine gate_guard (by rfl) ?_; dsimp only)); refine box_event ?hg (N := 8) ?hd (cs := #[.int .i64 0, .int .i64 0, .int .i64 0, .int .i64 0, .int .i64 0, .int .i64 0, .int .i64 0, .int .i64 0, .int .i64 0, .int .i64 0, .int .i64 0, .int .i64 0]) (t := 28) ?hr ?_; (case hd => rfl); (case hg => rfl); (case hr => first | (go_simp; done) | (go_simp; rfl)); intro gb304 hg w29 hbox hb; have n0_ := Aside0.mk (Kd.S_below (by (with_reducible repeat (first | apply Kd.S_alloc | apply Kd.S_drewN | apply Kd.S_drew)); exact HO_6.out) hb); have n1_ := Aside0.mk (below_step (upB HB.out) hb); have n2_ := Aside0.mk (hbox); have n3_ := Aside0.mk ((by rw [hg]; exact (below_size (upB HB.out)) : w.heap.size ≤ gb304)); have n4_ := Aside0.mk ((by rw [hg]; exact (below_size (upB HB.out)) : w.heap.size ≤ gb304)); clear HO_6; clear HB; have HO_6 := n0_; have HB := n1_; have BK304 := n2_; have GW304 := n3_; have GE304 := n4_; clear n0_ n1_ n2_ n3_ n4_; clear hb hbox hg; have hcz30_0 := ci BK304.out 0 0 rfl; have hcz30_1 := ci BK304.out 1 0 rfl; have hcz30_2 := ci BK304.out 2 0 rfl; have hcz30_3 := ci BK304.out 3 0 rfl; have hcz30_4 := ci BK304.out 4 0 rfl; have hcz30_5 := ci BK304.out 5 0 rfl; have hcz30_6 := ci BK304.out 6 0 rfl; have hcz30_7 := ci BK304.out 7 0 rfl; have hcz30_8 := ci BK304.out 8 0 rfl; have hcz30_9 := ci BK304.out 9 0 rfl; have hcz30_10 := ci BK304.out 10 0 rfl; have hcz30_11 := ci BK304.out 11 0 rfl; have hfz30_0 := fun j_ : Nat => blk_frozen BK304.out j_))
                        have n0_ : Aside0 (Kd.S (Kd.slice 26 k26) 39 ((((((((((((w29.setCell ⟨gb304, 0, none⟩ (.int .i64 ((rd_T28 l1 x24_2).f0))).setCell ⟨gb304, 1, none⟩ (.int .i64 ((rd_T28 l1 x24_2).f1))).setCell ⟨gb304, 2, none⟩ (.int .i64 ((rd_T28 l1 x24_2).f2.f0))).setCell ⟨gb304, 3, none⟩ (.int .i64 ((rd_T28 l1 x24_2).f2.f1))).setCell ⟨gb304, 4, none⟩ (.int .i64 ((rd_T28 l1 x24_2).f2.f2))).setCell ⟨gb304, 5, none⟩ (.int .i64 ((rd_T28 l1 x24_2).f2.f3))).setCell ⟨gb304, 6, none⟩ (.int .i64 ((rd_T28 l1 x24_2).f2.f4))).setCell ⟨gb304, 7, none⟩ (.int .i64 ((rd_T28 l1 x24_2).f3.f0))).setCell ⟨gb304, 8, none⟩ (.int .i64 ((rd_T28 l1 x24_2).f3.f1))).setCell ⟨gb304, 9, none⟩ (.int .i64 ((rd_T28 l1 x24_2).f3.f2))).setCell ⟨gb304, 10, none⟩ (.int .i64 ((rd_T28 l1 x24_2).f3.f3))).setCell ⟨gb304, 11, none⟩ (.int .i64 ((rd_T28 l1 x24_2).f3.f4))) w.heap.size (fun _ => True) u6 x6_2) := ⟨by (with_reducible repeat (first | apply Kd.S_alloc | apply Kd.S_drewN | apply Kd.S_drew)); exact Kd.S_mono (Kd.S_far (p := ⟨gb304, 11, none⟩) (Kd.S_far (p := ⟨gb304, 10, none⟩) (Kd.S_far (p := ⟨gb304, 9, none⟩) (Kd.S_far (p := ⟨gb304, 8, none⟩) (Kd.S_far (p := ⟨gb304, 7, none⟩) (Kd.S_far (p := ⟨gb304, 6, none⟩) (Kd.S_far (p := ⟨gb304, 5, none⟩) (Kd.S_far (p := ⟨gb304, 4, none⟩) (Kd.S_far (p := ⟨gb304, 3, none⟩) (Kd.S_far (p := ⟨gb304, 2, none⟩) (Kd.S_far (p := ⟨gb304, 1, none⟩) (Kd.S_far (p := ⟨gb304, 0, none⟩) (Kd.S_types HO_6.out BK304.out (by decide)) (fun _ hk => hk.2) (.int .i64 ((rd_T28 l1 x24_2).f0))) (fun _ hk => hk.2) (.int .i64 ((rd_T28 l1 x24_2).f1))) (fun _ hk => hk.2) (.int .i64 ((rd_T28 l1 x24_2).f2.f0))) (fun _ hk => hk.2) (.int .i64 ((rd_T28 l1 x24_2).f2.f1))) (fun _ hk => hk.2) (.int .i64 ((rd_T28 l1 x24_2).f2.f2))) (fun _ hk => hk.2) (.int .i64 ((rd_T28 l1 x24_2).f2.f3))) (fun _ hk => hk.2) (.int .i64 ((rd_T28 l1 x24_2).f2.f4))) (fun _ hk => hk.2) (.int .i64 ((rd_T28 l1 x24_2).f3.f0))) (fun _ hk => hk.2) (.int .i64 ((rd_T28 l1 x24_2).f3.f1))) (fun _ hk => hk.2) (.int .i64 ((rd_T28 l1 x24_2).f3.f2))) (fun _ hk => hk.2) (.int .i64 ((rd_T28 l1 x24_2).f3.f3))) (fun _ hk => hk.2) (.int .i64 ((rd_T28 l1 x24_2).f3.f4))) (fun _ hk => trivial)⟩
                        have n1_ : Aside0 (((((((((((((w29.setCell ⟨gb304, 0, none⟩ (.int .i64 ((rd_T28 l1 x24_2).f0))).setCell ⟨gb304, 1, none⟩ (.int .i64 ((rd_T28 l1 x24_2).f1))).setCell ⟨gb304, 2, none⟩ (.int .i64 ((rd_T28 l1 x24_2).f2.f0))).setCell ⟨gb304, 3, none⟩ (.int .i64 ((rd_T28 l1 x24_2).f2.f1))).setCell ⟨gb304, 4, none⟩ (.int .i64 ((rd_T28 l1 x24_2).f2.f2))).setCell ⟨gb304, 5, none⟩ (.int .i64 ((rd_T28 l1 x24_2).f2.f3))).setCell ⟨gb304, 6, none⟩ (.int .i64 ((rd_T28 l1 x24_2).f2.f4))).setCell ⟨gb304, 7, none⟩ (.int .i64 ((rd_T28 l1 x24_2).f3.f0))).setCell ⟨gb304, 8, none⟩ (.int .i64 ((rd_T28 l1 x24_2).f3.f1))).setCell ⟨gb304, 9, none⟩ (.int .i64 ((rd_T28 l1 x24_2).f3.f2))).setCell ⟨gb304, 10, none⟩ (.int .i64 ((rd_T28 l1 x24_2).f3.f3))).setCell ⟨gb304, 11, none⟩ (.int .i64 ((rd_T28 l1 x24_2).f3.f4))).heap[gb304]? = some (.cells #[.int .i64 ((rd_T28 l1 x24_2).f0), .int .i64 ((rd_T28 l1 x24_2).f1), .int .i64 ((rd_T28 l1 x24_2).f2.f0), .int .i64 ((rd_T28 l1 x24_2).f2.f1), .int .i64 ((rd_T28 l1 x24_2).f2.f2), .int .i64 ((rd_T28 l1 x24_2).f2.f3), .int .i64 ((rd_T28 l1 x24_2).f2.f4), .int .i64 ((rd_T28 l1 x24_2).f3.f0), .int .i64 ((rd_T28 l1 x24_2).f3.f1), .int .i64 ((rd_T28 l1 x24_2).f3.f2), .int .i64 ((rd_T28 l1 x24_2).f3.f3), .int .i64 ((rd_T28 l1 x24_2).f3.f4)] 28 (0, 0))) := ⟨by (with_reducible repeat (first | refine blk_drewN ?_ _ | refine blk_drew ?_ | refine blk_alloc ?_ _)); refine blk_put (cs := #[.int .i64 ((rd_T28 l1 x24_2).f0), .int .i64 ((rd_T28 l1 x24_2).f1), .int .i64 ((rd_T28 l1 x24_2).f2.f0), .int .i64 ((rd_T28 l1 x24_2).f2.f1), .int .i64 ((rd_T28 l1 x24_2).f2.f2), .int .i64 ((rd_T28 l1 x24_2).f2.f3), .int .i64 ((rd_T28 l1 x24_2).f2.f4), .int .i64 ((rd_T28 l1 x24_2).f3.f0), .int .i64 ((rd_T28 l1 x24_2).f3.f1), .int .i64 ((rd_T28 l1 x24_2).f3.f2), .int .i64 ((rd_T28 l1 x24_2).f3.f3), .int .i64 0]) ?_ 11 _ rfl; (with_reducible repeat (first | refine blk_drewN ?_ _ | refine blk_drew ?_ | refine blk_alloc ?_ _)); refine blk_put (cs := #[.int .i64 ((rd_T28 l1 x24_2).f0), .int .i64 ((rd_T28 l1 x24_2).f1), .int .i64 ((rd_T28 l1 x24_2).f2.f0), .int .i64 ((rd_T28 l1 x24_2).f2.f1), .int .i64 ((rd_T28 l1 x24_2).f2.f2), .int .i64 ((rd_T28 l1 x24_2).f2.f3), .int .i64 ((rd_T28 l1 x24_2).f2.f4), .int .i64 ((rd_T28 l1 x24_2).f3.f0), .int .i64 ((rd_T28 l1 x24_2).f3.f1), .int .i64 ((rd_T28 l1 x24_2).f3.f2), .int .i64 0, .int .i64 0]) ?_ 10 _ rfl; (with_reducible repeat (first | refine blk_drewN ?_ _ | refine blk_drew ?_ | refine blk_alloc ?_ _)); refine blk_put (cs := #[.int .i64 ((rd_T28 l1 x24_2).f0), .int .i64 ((rd_T28 l1 x24_2).f1), .int .i64 ((rd_T28 l1 x24_2).f2.f0), .int .i64 ((rd_T28 l1 x24_2).f2.f1), .int .i64 ((rd_T28 l1 x24_2).f2.f2), .int .i64 ((rd_T28 l1 x24_2).f2.f3), .int .i64 ((rd_T28 l1 x24_2).f2.f4), .int .i64 ((rd_T28 l1 x24_2).f3.f0), .int .i64 ((rd_T28 l1 x24_2).f3.f1), .int .i64 0, .int .i64 0, .int .i64 0]) ?_ 9 _ rfl; (with_reducible repeat (first | refine blk_drewN ?_ _ | refine blk_drew ?_ | refine blk_alloc ?_ _)); refine blk_put (cs := #[.int .i64 ((rd_T28 l1 x24_2).f0), .int .i64 ((rd_T28 l1 x24_2).f1), .int .i64 ((rd_T28 l1 x24_2).f2.f0), .int .i64 ((rd_T28 l1 x24_2).f2.f1), .int .i64 ((rd_T28 l1 x24_2).f2.f2), .int .i64 ((rd_T28 l1 x24_2).f2.f3), .int .i64 ((rd_T28 l1 x24_2).f2.f4), .int .i64 ((rd_T28 l1 x24_2).f3.f0), .int .i64 0, .int .i64 0, .int .i64 0, .int .i64 0]) ?_ 8 _ rfl; (with_reducible repeat (first | refine blk_drewN ?_ _ | refine blk_drew ?_ | refine blk_alloc ?_ _)); refine blk_put (cs := #[.int .i64 ((rd_T28 l1 x24_2).f0), .int .i64 ((rd_T28 l1 x24_2).f1), .int .i64 ((rd_T28 l1 x24_2).f2.f0), .int .i64 ((rd_T28 l1 x24_2).f2.f1), .int .i64 ((rd_T28 l1 x24_2).f2.f2), .int .i64 ((rd_T28 l1 x24_2).f2.f3), .int .i64 ((rd_T28 l1 x24_2).f2.f4), .int .i64 0, .int .i64 0, .int .i64 0, .int .i64 0, .int .i64 0]) ?_ 7 _ rfl; (with_reducible repeat (first | refine blk_drewN ?_ _ | refine blk_drew ?_ | refine blk_alloc ?_ _)); refine blk_put (cs := #[.int .i64 ((rd_T28 l1 x24_2).f0), .int .i64 ((rd_T28 l1 x24_2).f1), .int .i64 ((rd_T28 l1 x24_2).f2.f0), .int .i64 ((rd_T28 l1 x24_2).f2.f1), .int .i64 ((rd_T28 l1 x24_2).f2.f2), .int .i64 ((rd_T28 l1 x24_2).f2.f3), .int .i64 0, .int .i64 0, .int .i64 0, .int .i64 0, .int .i64 0, .int .i64 0]) ?_ 6 _ rfl; (with_reducible repeat (first | refine blk_drewN ?_ _ | refine blk_drew ?_ | refine blk_alloc ?_ _)); refine blk_put (cs := #[.int .i64 ((rd_T28 l1 x24_2).f0), .int .i64 ((rd_T28 l1 x24_2).f1), .int .i64 ((rd_T28 l1 x24_2).f2.f0), .int .i64 ((rd_T28 l1 x24_2).f2.f1), .int .i64 ((rd_T28 l1 x24_2).f2.f2), .int .i64 0, .int .i64 0, .int .i64 0, .int .i64 0, .int .i64 0, .int .i64 0, .int .i64 0]) ?_ 5 _ rfl; (with_reducible repeat (first | refine blk_drewN ?_ _ | refine blk_drew ?_ | refine blk_alloc ?_ _)); refine blk_put (cs := #[.int .i64 ((rd_T28 l1 x24_2).f0), .int .i64 ((rd_T28 l1 x24_2).f1), .int .i64 ((rd_T28 l1 x24_2).f2.f0), .int .i64 ((rd_T28 l1 x24_2).f2.f1), .int .i64 0, .int .i64 0, .int .i64 0, .int .i64 0, .int .i64 0, .int .i64 0, .int .i64 0, .int .i64 0]) ?_ 4 _ rfl; (with_reducible repeat (first | refine blk_drewN ?_ _ | refine blk_drew ?_ | refine blk_alloc ?_ _)); refine blk_put (cs := #[.int .i64 ((rd_T28 l1 x24_2).f0), .int .i64 ((rd_T28 l1 x24_2).f1), .int .i64 ((rd_T28 l1 x24_2).f2.f0), .int .i64 0, .int .i64 0, .int .i64 0, .int .i64 0, .int .i64 0, .int .i64 0, .int .i64 0, .int .i64 0, .int .i64 0]) ?_ 3 _ rfl; (with_reducible repeat (first | refine blk_drewN ?_ _ | refine blk_drew ?_ | refine blk_alloc ?_ _)); refine blk_put (cs := #[.int .i64 ((rd_T28 l1 x24_2).f0), .int .i64 ((rd_T28 l1 x24_2).f1), .int .i64 0, .int .i64 0, .int .i64 0, .int .i64 0, .int .i64 0, .int .i64 0, .int .i64 0, .int .i64 0, .int .i64 0, .int .i64 0]) ?_ 2 _ rfl; (with_reducible repeat (first | refine blk_drewN ?_ _ | refine blk_drew ?_ | refine blk_alloc ?_ _)); refine blk_put (cs := #[.int .i64 ((rd_T28 l1 x24_2).f0), .int .i64 0, .int .i64 0, .int .i64 0, .int .i64 0, .int .i64 0, .int .i64 0, .int .i64 0, .int .i64 0, .int .i64 0, .int .i64 0, .int .i64 0]) ?_ 1 _ rfl; (with_reducible repeat (first | refine blk_drewN ?_ _ | refine blk_drew ?_ | refine blk_alloc ?_ _)); refine blk_put (cs := #[.int .i64 0, .int .i64 0, .int .i64 0, .int .i64 0, .int .i64 0, .int .i64 0, .int .i64 0, .int .i64 0, .int .i64 0, .int .i64 0, .int .i64 0, .int .i64 0]) ?_ 0 _ rfl; (with_reducible repeat (first | refine blk_drewN ?_ _ | refine blk_drew ?_ | refine blk_alloc ?_ _)); exact BK304.out⟩
                        have n2_ : Aside0 (Below w.heap.size w ((((((((((((w29.setCell ⟨gb304, 0, none⟩ (.int .i64 ((rd_T28 l1 x24_2).f0))).setCell ⟨gb304, 1, none⟩ (.int .i64 ((rd_T28 l1 x24_2).f1))).setCell ⟨gb304, 2, none⟩ (.int .i64 ((rd_T28 l1 x24_2).f2.f0))).setCell ⟨gb304, 3, none⟩ (.int .i64 ((rd_T28 l1 x24_2).f2.f1))).setCell ⟨gb304, 4, none⟩ (.int .i64 ((rd_T28 l1 x24_2).f2.f2))).setCell ⟨gb304, 5, none⟩ (.int .i64 ((rd_T28 l1 x24_2).f2.f3))).setCell ⟨gb304, 6, none⟩ (.int .i64 ((rd_T28 l1 x24_2).f2.f4))).setCell ⟨gb304, 7, none⟩ (.int .i64 ((rd_T28 l1 x24_2).f3.f0))).setCell ⟨gb304, 8, none⟩ (.int .i64 ((rd_T28 l1 x24_2).f3.f1))).setCell ⟨gb304, 9, none⟩ (.int .i64 ((rd_T28 l1 x24_2).f3.f2))).setCell ⟨gb304, 10, none⟩ (.int .i64 ((rd_T28 l1 x24_2).f3.f3))).setCell ⟨gb304, 11, none⟩ (.int .i64 ((rd_T28 l1 x24_2).f3.f4)))) := ⟨(upB1 HB.out GE304.out)⟩
                        (try clear HO_6)
                        (try clear BK304)
                        (try clear HB)
                        generalize ((((((((((((w29.setCell ⟨gb304, 0, none⟩ (.int .i64 ((rd_T28 l1 x24_2).f0))).setCell ⟨gb304, 1, none⟩ (.int .i64 ((rd_T28 l1 x24_2).f1))).setCell ⟨gb304, 2, none⟩ (.int .i64 ((rd_T28 l1 x24_2).f2.f0))).setCell ⟨gb304, 3, none⟩ (.int .i64 ((rd_T28 l1 x24_2).f2.f1))).setCell ⟨gb304, 4, none⟩ (.int .i64 ((rd_T28 l1 x24_2).f2.f2))).setCell ⟨gb304, 5, none⟩ (.int .i64 ((rd_T28 l1 x24_2).f2.f3))).setCell ⟨gb304, 6, none⟩ (.int .i64 ((rd_T28 l1 x24_2).f2.f4))).setCell ⟨gb304, 7, none⟩ (.int .i64 ((rd_T28 l1 x24_2).f3.f0))).setCell ⟨gb304, 8, none⟩ (.int .i64 ((rd_T28 l1 x24_2).f3.f1))).setCell ⟨gb304, 9, none⟩ (.int .i64 ((rd_T28 l1 x24_2).f3.f2))).setCell ⟨gb304, 10, none⟩ (.int .i64 ((rd_T28 l1 x24_2).f3.f3))).setCell ⟨gb304, 11, none⟩ (.int .i64 ((rd_T28 l1 x24_2).f3.f4))) = w31 at n0_ n1_ n2_ ⊢
                        have HO_6 := n0_
                        have BK304 := n1_
                        have HB := n2_
                        clear n0_ n1_ n2_
                        have n0_ := Aside0.mk (Kd.S_drew HO_6.out)
                        have n1_ := Aside0.mk (blk_drew BK304.out)
                        have n2_ := Aside0.mk (below_drew1 HB.out)
                        clear HO_6
                        clear BK304
                        clear HB
                        have HO_6 := n0_
                        have BK304 := n1_
                        have HB := n2_
                        clear n0_ n1_ n2_
                        obtain ⟨Ao33, co33, eo33⟩ := Kd.S_slice HO_6.out
                        (first | subst eo33 | (injection eo33 with f1_ f2_ f3_; have f4_ := f1_.symm; have f5_ := f3_.symm; clear f1_ f2_ f3_; subst f4_; subst f5_))
                        have p305 : 0 ≤ (x24_2 : Int) := of_decide_eq_true asmB
                        have q305 : x24_2 < (x6_2.length : Int) := of_decide_eq_true asmB
                        obtain ⟨ad305, A305_0, c305_0, e305, hx305_0, hl305_0, hi305_0⟩ := at_L6 (Kd.S_reads' HO_6.out).2.2 x24_2 p305 q305
                        cases e305
                        obtain ⟨ce305, hce305, hMe305, hcc305⟩ := Kd.S_get HO_6.out [] x24_2 p305 (by first | exact q305 | exact of_decide_eq_true asmB | (have e_ := (Kd.S_reads' HO_6.out).1; omega))
                        obtain ⟨ve305_0, rfl, ge305_0⟩ := hMe305
                        have hv305_0 := hcc305 0 _ rfl
                        rw [Nat.add_zero, show ((Kd.slice 26 k26)).sz = 1 from rfl, Nat.mul_one] at hv305_0
                        replace hv305_0 := Option.some.inj (hv305_0.symm.trans hx305_0)
                        rw [hv305_0] at ge305_0
                        have HL305_0 := Aside0.mk (show Kd.R k26 26 _ _ _ _ (rd_L6 x6_2 x24_2) from ge305_0)
                        clear hv305_0 ge305_0
                        clear hcc305 hce305
                        have HR305_0 := Aside0.mk hi305_0
                        have HC305_0 := Aside0.mk hl305_0
                        clear hi305_0 hl305_0
                        replace p305 := eq_true p305
                        replace q305 := eq_true q305
                        refine start_ (n := 11) (S := fun w' => w'.cell? ⟨gb304, 0, none⟩ = some (.int .i64 ((rd_T28 l1 x24_2).f0)) ∧ w'.cell? ⟨gb304, 1, none⟩ = some (.int .i64 ((rd_T28 l1 x24_2).f1)) ∧ w'.cell? ⟨gb304, 2, none⟩ = some (.int .i64 ((rd_T28 l1 x24_2).f2.f0)) ∧ w'.cell? ⟨gb304, 3, none⟩ = some (.int .i64 ((rd_T28 l1 x24_2).f2.f1)) ∧ w'.cell? ⟨gb304, 4, none⟩ = some (.int .i64 ((rd_T28 l1 x24_2).f2.f2)) ∧ w'.cell? ⟨gb304, 5, none⟩ = some (.int .i64 ((rd_T28 l1 x24_2).f2.f3)) ∧ w'.cell? ⟨gb304, 6, none⟩ = some (.int .i64 ((rd_T28 l1 x24_2).f2.f4)) ∧ w'.cell? ⟨gb304, 7, none⟩ = some (.int .i64 ((rd_T28 l1 x24_2).f3.f0)) ∧ w'.cell? ⟨gb304, 8, none⟩ = some (.int .i64 ((rd_T28 l1 x24_2).f3.f1)) ∧ w'.cell? ⟨gb304, 9, none⟩ = some (.int .i64 ((rd_T28 l1 x24_2).f3.f2)) ∧ w'.cell? ⟨gb304, 10, none⟩ = some (.int .i64 ((rd_T28 l1 x24_2).f3.f3)) ∧ w'.cell? ⟨gb304, 11, none⟩ = some (.int .i64 ((rd_T28 l1 x24_2).f3.f4)) ∧ w'.cell? (ad305.add (x24_2).toNat) = some (.slice A305_0 (rd_L6 x6_2 x24_2).length c305_0)) (ds := []) #[false, false, false, false, false, false, false, false, false, false, false] (by kernel_rfl) rfl rfl ⟨(blk_cell BK304.out 0).trans rfl, (blk_cell BK304.out 1).trans rfl, (blk_cell BK304.out 2).trans rfl, (blk_cell BK304.out 3).trans rfl, (blk_cell BK304.out 4).trans rfl, (blk_cell BK304.out 5).trans rfl, (blk_cell BK304.out 6).trans rfl, (blk_cell BK304.out 7).trans rfl, (blk_cell BK304.out 8).trans rfl, (blk_cell BK304.out 9).trans rfl, (blk_cell BK304.out 10).trans rfl, (blk_cell BK304.out 11).trans rfl, hx305_0⟩ (fun hHeld => ?_); refine with_tabW impl_versions.tab7 impl_versions.bits7 (fun HT_ HW_ => ?_)
                        generalize w31.drew = w32 at HO_6 BK304 HB HL305_0 HR305_0 hx305_0 hHeld ⊢
                        refine pure_ (i := 0) (N := some 30) (v := ?_) (a' := ?_) #[true, false, false, false, false, false, false, false, false, false, false] rfl rfl (any_of HT_.out (by kernel_rfl)) (fun _ _ _ h => h) (Or.inl ⟨by rfl, ?_⟩) ?_ ?_
                        rotate_left
                        · intro w'
                          go_simp
                          with_reducible rfl
                        rotate_left
                        · simp only [Act.put, List.setIfInBounds_toArray, List.set_cons_zero, List.set_cons_succ, i64_w, i32_w]
                          rfl
                        refine pure_ (i := 1) (N := some 31) (v := ?_) (a' := ?_) #[true, true, false, false, false, false, false, false, false, false, false] rfl rfl (any_of HT_.out (by kernel_rfl)) (fun _ _ _ h => h) (Or.inl ⟨by rfl, ?_⟩) ?_ ?_
                        rotate_left
                        · intro w'
                          go_simp
                          with_reducible rfl
                        rotate_left
                        · simp only [Act.put, List.setIfInBounds_toArray, List.set_cons_zero, List.set_cons_succ, i64_w, i32_w]
                          rfl
                        refine pure_ (i := 2) (N := some 32) (v := ?_) (a' := ?_) #[true, true, true, false, false, false, false, false, false, false, false] rfl rfl (any_of HT_.out (by kernel_rfl)) (fun _ _ _ h => h) (Or.inl ⟨by rfl, ?_⟩) ?_ ?_
                        rotate_left
                        · intro w'
                          go_simp
                          with_reducible rfl
                        rotate_left
                        · simp only [Act.put, List.setIfInBounds_toArray, List.set_cons_zero, List.set_cons_succ, i64_w, i32_w]
                          rfl
                        refine take_ (i := 3) (N := some 33) (v := ?_) (a' := ?_) #[true, true, true, true, false, false, false, false, false, false, false] rfl rfl (take_ofW HT_.out HW_.out (by kernel_rfl)) (fun _ _ _ h => h) (Or.inl ⟨by rfl, ?_⟩) hHeld ?_ ?_
                        rotate_left
                        · rintro w' ⟨s0, s1, s2, s3, s4, s5, s6, s7, s8, s9, s10, s11, s12⟩
                          go_simp
                          with_reducible rfl
                        rotate_left
                        · simp only [Act.put, List.setIfInBounds_toArray, List.set_cons_zero, List.set_cons_succ, i64_w, i32_w]
                          rfl
                        refine take_ (i := 4) (N := some 34) (v := ?_) (a' := ?_) #[true, true, true, true, true, false, false, false, false, false, false] rfl rfl (take_ofW HT_.out HW_.out (by kernel_rfl)) (fun _ _ _ h => h) (Or.inl ⟨by rfl, ?_⟩) hHeld ?_ ?_
                        rotate_left
                        · rintro w' ⟨s0, s1, s2, s3, s4, s5, s6, s7, s8, s9, s10, s11, s12⟩
                          go_simp
                          with_reducible rfl
                        rotate_left
                        · simp only [Act.put, List.setIfInBounds_toArray, List.set_cons_zero, List.set_cons_succ, i64_w, i32_w]
                          rfl
                        refine one_ (i := 5) (N := some 35) #[true, true, true, true, true, true, false, false, false, false, false] rfl rfl (one_of HT_.out (by kernel_rfl)) (by decide) (fun K hK => ?_)
                        refine goes_ Try.func67 (by kernel_rfl) rfl #[.slice A305_0 (rd_L6 x6_2 x24_2).length c305_0, .agg #[.int .i64 ((rd_T28 l1 x24_2).f0), .int .i64 ((rd_T28 l1 x24_2).f1), .int .i64 ((rd_T28 l1 x24_2).f2.f0), .int .i64 ((rd_T28 l1 x24_2).f2.f1), .int .i64 ((rd_T28 l1 x24_2).f2.f2), .int .i64 ((rd_T28 l1 x24_2).f2.f3), .int .i64 ((rd_T28 l1 x24_2).f2.f4), .int .i64 ((rd_T28 l1 x24_2).f3.f0), .int .i64 ((rd_T28 l1 x24_2).f3.f1), .int .i64 ((rd_T28 l1 x24_2).f3.f2), .int .i64 ((rd_T28 l1 x24_2).f3.f3), .int .i64 ((rd_T28 l1 x24_2).f3.f4)]] (by rfl) rfl rfl argsB ?_
                        with_reducible refine (impl_apply.calls k2 _ _ (rd_L6 x6_2 x24_2) ((rd_T28 l1 x24_2).f0) ((rd_T28 l1 x24_2).f1) ((rd_T28 l1 x24_2).f2.f0) ((rd_T28 l1 x24_2).f2.f1) ((rd_T28 l1 x24_2).f2.f2) ((rd_T28 l1 x24_2).f2.f3) ((rd_T28 l1 x24_2).f2.f4) ((rd_T28 l1 x24_2).f3.f0) ((rd_T28 l1 x24_2).f3.f1) ((rd_T28 l1 x24_2).f3.f2) ((rd_T28 l1 x24_2).f3.f3) ((rd_T28 l1 x24_2).f3.f4) t306 false _ ?side1 ?side2 A18.out).mono ?_
                        (case side1 => repeat (first | exact (by repeat (first | (with_reducible exact HR305_0.out) | (with_reducible refine Kd.C_alloc ?_ _) | (with_reducible refine Kd.C_drewN ?_ _) | (with_reducible refine Kd.C_drew ?_) | exact HR305_0.out)) | (with_reducible refine Kd.C_alloc ?_ _) | (with_reducible refine Kd.C_drewN ?_ _) | (with_reducible refine Kd.C_drew ?_)))
                        (case side2 => exact HC305_0.out)
                        rintro e w34 ⟨v307, rfl, ho0, hb⟩
                        have HS12_ := (hb.cell (World.block_lt_of_cell? _ _ (hHeld.2.2.2.2.2.2.2.2.2.2.2.2))).trans (hHeld.2.2.2.2.2.2.2.2.2.2.2.2)
                        refine ⟨_, rfl, ?_⟩
                        have n0_ := Aside0.mk (Kd.S_elder' (by (with_reducible repeat (first | apply Kd.S_alloc | apply Kd.S_drewN | apply Kd.S_drew)); exact HO_6.out) (Kd.R_base ho0) hb)
                        have n1_ := Aside0.mk (Kd.R_elder' (by (with_reducible repeat (first | apply Kd.R_alloc | apply Kd.R_drewN | apply Kd.R_drew)); exact HL305_0.out) (Kd.R_base ho0) hb)
                        have n2_ := Aside0.mk (Kd.R_lower (Kd.R_new' ho0 (Kd.R_lt (by (with_reducible repeat (first | apply Kd.R_alloc | apply Kd.R_drewN | apply Kd.R_drew)); exact HL305_0.out))) (below_size (upB1 HB.out GE304.out)))
                        have n3_ := Aside0.mk (blk_below (g := gb304) (o := .cells #[.int .i64 ((rd_T28 l1 x24_2).f0), .int .i64 ((rd_T28 l1 x24_2).f1), .int .i64 ((rd_T28 l1 x24_2).f2.f0), .int .i64 ((rd_T28 l1 x24_2).f2.f1), .int .i64 ((rd_T28 l1 x24_2).f2.f2), .int .i64 ((rd_T28 l1 x24_2).f2.f3), .int .i64 ((rd_T28 l1 x24_2).f2.f4), .int .i64 ((rd_T28 l1 x24_2).f3.f0), .int .i64 ((rd_T28 l1 x24_2).f3.f1), .int .i64 ((rd_T28 l1 x24_2).f3.f2), .int .i64 ((rd_T28 l1 x24_2).f3.f3), .int .i64 ((rd_T28 l1 x24_2).f3.f4)] 28 (0, 0)) (upK BK304.out) hb)
                        have n4_ := Aside0.mk (Kd.C_below (by repeat (first | (with_reducible exact HR305_0.out) | (with_reducible refine Kd.C_alloc ?_ _) | (with_reducible refine Kd.C_drewN ?_ _) | (with_reducible refine Kd.C_drew ?_) | exact HR305_0.out)) hb)
                        have n5_ := Aside0.mk (below_step (upB1 HB.out GE304.out) hb)
                        clear HO_6
                        clear HL305_0
                        clear BK304
                        clear HR305_0
                        clear HB
                        have HO_6 := n0_
                        have HL305_0 := n1_
                        have HO308 := n2_
                        have BK304 := n3_
                        have HR305_0 := n4_
                        have HB := n5_
                        clear n0_ n1_ n2_ n3_ n4_ n5_
                        (try clear hb)
                        (try clear hk)
                        (try clear ho0)
                        refine hK.out _ _ ⟨(blk_cell BK304.out 0).trans rfl, (blk_cell BK304.out 1).trans rfl, (blk_cell BK304.out 2).trans rfl, (blk_cell BK304.out 3).trans rfl, (blk_cell BK304.out 4).trans rfl, (blk_cell BK304.out 5).trans rfl, (blk_cell BK304.out 6).trans rfl, (blk_cell BK304.out 7).trans rfl, (blk_cell BK304.out 8).trans rfl, (blk_cell BK304.out 9).trans rfl, (blk_cell BK304.out 10).trans rfl, (blk_cell BK304.out 11).trans rfl, HS12_⟩ (fun hHeld => ?_)
                        clear hK K
                        refine norm_ (a' := ?_) ?_ ?_
                        rotate_left
                        · show Act.put _ (some 35) _ = _
                          simp only [Act.put, List.setIfInBounds_toArray, List.set_cons_zero, List.set_cons_succ, i64_w, i32_w]
                          rfl
                        refine pure_ (i := 6) (N := some 29) (v := ?_) (a' := ?_) #[true, true, true, true, true, true, true, false, false, false, false] rfl rfl (any_of HT_.out (by kernel_rfl)) (fun _ _ _ h => h) (Or.inl ⟨by rfl, ?_⟩) ?_ ?_
                        rotate_left
                        · intro w'
                          go_simp
                          with_reducible rfl
                        rotate_left
                        · simp only [Act.put, List.setIfInBounds_toArray, List.set_cons_zero, List.set_cons_succ, i64_w, i32_w]
                          rfl
                        refine pure_ (i := 7) (N := some 36) (v := ?_) (a' := ?_) #[true, true, true, true, true, true, true, true, false, false, false] rfl rfl (any_of HT_.out (by kernel_rfl)) (fun _ _ _ h => h) (Or.inl ⟨by rfl, ?_⟩) ?_ ?_
                        rotate_left
                        · intro w'
                          go_simp
                          with_reducible rfl
                        rotate_left
                        · simp only [Act.put, List.setIfInBounds_toArray, List.set_cons_zero, List.set_cons_succ, i64_w, i32_w]
                          rfl
                        refine pure_ (i := 8) (N := some 37) (v := ?_) (a' := ?_) #[true, true, true, true, true, true, true, true, true, false, false] rfl rfl (any_of HT_.out (by kernel_rfl)) (fun _ _ _ h => h) (Or.inl ⟨by rfl, ?_⟩) ?_ ?_
                        rotate_left
                        · intro w'
                          go_simp
                          with_reducible rfl
                        rotate_left
                        · simp only [Act.put, List.setIfInBounds_toArray, List.set_cons_zero, List.set_cons_succ, i64_w, i32_w]
                          rfl
                        refine pure_ (i := 9) (N := some 9) (v := ?_) (a' := ?_) #[true, true, true, true, true, true, true, true, true, true, false] rfl rfl (any_of HT_.out (by kernel_rfl)) (fun _ _ _ h => h) (Or.inl ⟨by rfl, ?_⟩) ?_ ?_
                        rotate_left
                        · intro w'
                          go_simp
                          with_reducible rfl
                        rotate_left
                        · simp only [Act.put, List.setIfInBounds_toArray, List.set_cons_zero, List.set_cons_succ, i64_w, i32_w]
                          rfl
                        refine pure_ (i := 10) (N := some 10) (v := ?_) (a' := ?_) #[true, true, true, true, true, true, true, true, true, true, true] rfl rfl (any_of HT_.out (by kernel_rfl)) (fun _ _ _ h => h) (Or.inl ⟨by rfl, ?_⟩) ?_ ?_
                        rotate_left
                        · intro w'
                          go_simp
                          with_reducible rfl
                        rotate_left
                        · simp only [Act.put, List.setIfInBounds_toArray, List.set_cons_zero, List.set_cons_succ, i64_w, i32_w]
                          rfl
                        refine done_ (done_of HT_.out (by kernel_rfl)) ?_
                        try go_wp2
                        go_ret2
                        exact ⟨_, by first | rfl | (simp [errW_none, errW_some] <;> rfl) | (simp [*, errW_none, errW_some] <;> rfl), by first | exact Kd.S_nil _ _ _ _ _ | exact Kd.N_nil _ _ _ _ _ | exact Kd.V_nil _ _ _ _ _ | exact Kd.Q_nil _ _ _ _ _ | exact Kd.R_nil _ _ _ _ _, (upB1 HB.out GE304.out)⟩
                    · rw [if_neg c17] at H
                      exact absurd H (by simp)
                  · rw [if_neg c16] at H
                    exact absurd H (by simp)
                · rw [if_neg c15] at H
                  exact absurd H (by simp)
              · rw [if_neg c14] at H
                have c14b0 : decide (x24_2 < (l1.length : Int)) = false := decide_eq_false c14
                clear c14
                simp only [Option.some.injEq, Prod.mk.injEq] at H
                obtain ⟨rfl, rfl⟩ := H
                go_wp2
                go_ret2
                exact ⟨_, by first | rfl | (simp [errW_none, errW_some] <;> rfl) | (simp [*, errW_none, errW_some] <;> rfl), by (with_reducible repeat (first | apply Kd.S_alloc | apply Kd.S_drewN | apply Kd.S_drew)); exact HO_6.out, (upB HB.out)⟩
        · rw [if_neg c10] at H
          exact absurd H (by simp)

/-! ### impl_VersionAt: function 34 -/
def impl_VersionAt.f (k : Nat) (l0 : List (S26)) (l1 : List (S28)) (a2 : Int) : Option ((List (S26)) × Bool) := (impl_versions.f k l0 l1).bind fun bt313 => (if bt313.2 = true then ((impl_within.f a2 0 (l1.length : Int)).bind fun t317 => (if t317 = true then (if 0 ≤ a2 then (if a2 < (bt313.1.length : Int) then (some (rd_L6 bt313.1 a2, true)) else (none)) else (none)) else (some (([] : List (S26)), false)))) else (some (([] : List (S26)), false)))
theorem impl_VersionAt.mono : ∀ a0 a1 a2 k, LeO (impl_VersionAt.f k a0 a1 a2) (impl_VersionAt.f (k + 1) a0 a1 a2) := by
  intro a0 a1 a2 k
  unfold impl_VersionAt.f
  repeat' first
      | (with_reducible exact impl_versions.mono _ _ _)
      | (with_reducible exact LeO.refl _)
      | (with_reducible exact LeO.none _)
      | (with_reducible refine LeO.ite ?_ ?_)
      | (with_reducible refine LeO.bind ?_ (fun _ => ?_))
      | exact impl_versions.mono _ _ _
      | exact LeO.none _
      | refine LeO.ite ?_ ?_
      | refine LeO.bind ?_ (fun _ => ?_)
set_option maxHeartbeats 8000000 in
set_option maxRecDepth 100000 in
theorem impl_VersionAt.calls (k : Nat) (A0 : Option Addr) (c0 : Nat) (l0 : List (S26)) (A1 : Option Addr) (c1 : Nat) (l1 : List (S28)) (a2 : Int) (r1 : List (S26)) (r2 : Bool) (w : World) (hr0 : Kd.C k26 w A0 l0.length l0) (hc0 : l0.length ≤ c0) (hr1 : Kd.C k28 w A1 l1.length l1) (hc1 : l1.length ≤ c1) (h : impl_VersionAt.f k l0 l1 a2 = some (r1, r2)) :
    Calls Try.prog 34 #[.slice A0 l0.length c0, .slice A1 l1.length c1, .int .i64 a2] w fun e w' => ∃ v0_ : Value, e = .returned (.tuple #[v0_, .bool r2]) ∧ Kd.R k26 26 w' w.heap.size (fun _ => True) v0_ r1 ∧ Below w.heap.size w w' := by
  have HR0 := Aside0.mk hr0
  have HC0 := Aside0.mk hc0
  clear hr0 hc0
  have HR1 := Aside0.mk hr1
  have HC1 := Aside0.mk hc1
  clear hr1 hc1
  have HB := Aside0.mk (Below.refl w.heap.size w)
  have H : ((impl_versions.f k l0 l1).bind fun bt313 => (if bt313.2 = true then ((impl_within.f a2 0 (l1.length : Int)).bind fun t317 => (if t317 = true then (if 0 ≤ a2 then (if a2 < (bt313.1.length : Int) then (some (rd_L6 bt313.1 a2, true)) else (none)) else (none)) else (some (([] : List (S26)), false)))) else (some (([] : List (S26)), false)))) = some (r1, r2) := h
  clear h
  replace H := Option.bind_eq_some_iff.mp H
  obtain ⟨⟨t313, t314⟩, A40, H⟩ := H
  replace H : (if t314 = true then ((impl_within.f a2 0 (l1.length : Int)).bind fun t317 => (if t317 = true then (if 0 ≤ a2 then (if a2 < (t313.length : Int) then (some (rd_L6 t313 a2, true)) else (none)) else (none)) else (some (([] : List (S26)), false)))) else (some (([] : List (S26)), false))) = some (r1, r2) := H
  have A4 := Aside0.mk A40
  clear A40
  by_cases c5 : t314 = true
  · subst c5
    have H1 : ((impl_within.f a2 0 (l1.length : Int)).bind fun t317 => (if t317 = true then (if 0 ≤ a2 then (if a2 < (t313.length : Int) then (some (rd_L6 t313 a2, true)) else (none)) else (none)) else (some (([] : List (S26)), false)))) = some (r1, r2) := by rw [if_pos rfl] at H; exact H
    clear H
    have H := H1
    clear H1
    replace H := Option.bind_eq_some_iff.mp H
    obtain ⟨t317, A60, H⟩ := H
    replace H : (if t317 = true then (if 0 ≤ a2 then (if a2 < (t313.length : Int) then (some (rd_L6 t313 a2, true)) else (none)) else (none)) else (some (([] : List (S26)), false))) = some (r1, r2) := H
    have A6 := Aside0.mk A60
    clear A60
    by_cases c7 : t317 = true
    · subst c7
      have H1 : (if 0 ≤ a2 then (if a2 < (t313.length : Int) then (some (rd_L6 t313 a2, true)) else (none)) else (none)) = some (r1, r2) := by rw [if_pos rfl] at H; exact H
      clear H
      have H := H1
      clear H1
      by_cases c8 : 0 ≤ a2
      · rw [if_pos c8] at H
        have c8b0 : decide (0 ≤ a2) = true := decide_eq_true c8
        clear c8
        by_cases c9 : a2 < (t313.length : Int)
        · rw [if_pos c9] at H
          have c9b0 : decide (a2 < (t313.length : Int)) = true := decide_eq_true c9
          clear c9
          simp only [Option.some.injEq, Prod.mk.injEq] at H
          obtain ⟨rfl, rfl⟩ := H
          go_enter Try.func34, Try.ntmps34
          go_wp2_with (first | ((with_reducible refine gate_callee (f := 69) rfl ?_); refine goesL_ (some 13) rfl rfl Try.func69 (by kernel_rfl) rfl #[.slice A0 l0.length c0, .slice A1 l1.length c1] rfl argsB ?_; (with_reducible refine (impl_versions.calls k _ _ l0 _ _ l1 t313 true _ ?side1 ?side2 ?side3 ?side4 A4.out).mono ?_); (case side1 => repeat (first | exact HR0.out | (with_reducible refine Kd.C_alloc ?_ _) | (with_reducible refine Kd.C_drewN ?_ _) | (with_reducible refine Kd.C_drew ?_))); (case side2 => exact HC0.out); (case side3 => repeat (first | exact HR1.out | (with_reducible refine Kd.C_alloc ?_ _) | (with_reducible refine Kd.C_drewN ?_ _) | (with_reducible refine Kd.C_drew ?_))); (case side4 => exact HC1.out); rintro e w10 ⟨v315, rfl, ho0, hb⟩; refine ⟨_, rfl, ?_⟩; have n0_ := Aside0.mk (Kd.S_lower ho0 (below_size (upB HB.out))); have n1_ := Aside0.mk (below_step (upB HB.out) hb); clear HB; have HO316 := n0_; have HB := n1_; clear n0_ n1_; (try clear hb); (try clear hk); (try clear ho0)) | (go_at_call 72; (with_reducible refine (impl_within.calls a2 0 (l1.length : Int) true _ A6.out).mono ?_); rintro e w' ⟨rfl, ⟨nd, rfl⟩⟩; obtain ⟨Ao11, co11, eo11⟩ := Kd.S_slice HO316.out; subst eo11; have p318 : 0 ≤ (a2 : Int) := of_decide_eq_true asmB; have q318 : a2 < (t313.length : Int) := of_decide_eq_true asmB; obtain ⟨ad318, A318_0, c318_0, e318, hx318_0, hl318_0, hi318_0⟩ := at_L6 (Kd.S_reads' HO316.out).2.2 a2 p318 q318; cases e318; obtain ⟨ce318, hce318, hMe318, hcc318⟩ := Kd.S_get HO316.out [] a2 p318 (by first | exact q318 | exact of_decide_eq_true asmB | (have e_ := (Kd.S_reads' HO316.out).1; omega)); obtain ⟨ve318_0, rfl, ge318_0⟩ := hMe318; have hv318_0 := hcc318 0 _ rfl; rw [Nat.add_zero, show ((Kd.slice 26 k26)).sz = 1 from rfl, Nat.mul_one] at hv318_0; replace hv318_0 := Option.some.inj (hv318_0.symm.trans hx318_0); rw [hv318_0] at ge318_0; have HL318_0 := Aside0.mk (show Kd.R k26 26 _ _ _ _ (rd_L6 t313 a2) from ge318_0); clear hv318_0 ge318_0; clear hcc318 hce318; have HR318_0 := Aside0.mk hi318_0; have HC318_0 := Aside0.mk hl318_0; clear hi318_0 hl318_0; replace p318 := eq_true p318; replace q318 := eq_true q318))
          go_ret2
          exact ⟨_, by first | rfl | (simp [errW_none, errW_some] <;> rfl) | (simp [*, errW_none, errW_some] <;> rfl), by (with_reducible repeat (first | apply Kd.R_alloc | apply Kd.R_drewN | apply Kd.R_drew)); exact Kd.R_mono HL318_0.out (fun _ hk => trivial), (upB HB.out)⟩
        · rw [if_neg c9] at H
          exact absurd H (by simp)
      · rw [if_neg c8] at H
        exact absurd H (by simp)
    · replace c7 := Bool.eq_false_iff.mpr c7
      subst c7
      have H1 : (some (([] : List (S26)), false)) = some (r1, r2) := by rw [if_neg (show ¬ (false = true) by decide)] at H; exact H
      clear H
      have H := H1
      clear H1
      simp only [Option.some.injEq, Prod.mk.injEq] at H
      obtain ⟨rfl, rfl⟩ := H
      go_enter Try.func34, Try.ntmps34
      go_wp2_with (first | ((with_reducible refine gate_callee (f := 69) rfl ?_); refine goesL_ (some 13) rfl rfl Try.func69 (by kernel_rfl) rfl #[.slice A0 l0.length c0, .slice A1 l1.length c1] rfl argsB ?_; (with_reducible refine (impl_versions.calls k _ _ l0 _ _ l1 t313 true _ ?side1 ?side2 ?side3 ?side4 A4.out).mono ?_); (case side1 => repeat (first | exact HR0.out | (with_reducible refine Kd.C_alloc ?_ _) | (with_reducible refine Kd.C_drewN ?_ _) | (with_reducible refine Kd.C_drew ?_))); (case side2 => exact HC0.out); (case side3 => repeat (first | exact HR1.out | (with_reducible refine Kd.C_alloc ?_ _) | (with_reducible refine Kd.C_drewN ?_ _) | (with_reducible refine Kd.C_drew ?_))); (case side4 => exact HC1.out); rintro e w12 ⟨v315, rfl, ho0, hb⟩; refine ⟨_, rfl, ?_⟩; have n0_ := Aside0.mk (Kd.S_lower ho0 (below_size (upB HB.out))); have n1_ := Aside0.mk (below_step (upB HB.out) hb); clear HB; have HO316 := n0_; have HB := n1_; clear n0_ n1_; (try clear hb); (try clear hk); (try clear ho0)) | (go_at_call 72; (with_reducible refine (impl_within.calls a2 0 (l1.length : Int) false _ A6.out).mono ?_); rintro e w' ⟨rfl, ⟨nd, rfl⟩⟩))
      go_ret2
      exact ⟨_, by first | rfl | (simp [errW_none, errW_some] <;> rfl) | (simp [*, errW_none, errW_some] <;> rfl), by first | exact Kd.R_nil _ _ _ _ _ | exact Kd.N_nil _ _ _ _ _ | exact Kd.V_nil _ _ _ _ _ | exact Kd.Q_nil _ _ _ _ _ | exact Kd.S_nil _ _ _ _ _, (upB HB.out)⟩
  · replace c5 := Bool.eq_false_iff.mpr c5
    subst c5
    have H1 : (some (([] : List (S26)), false)) = some (r1, r2) := by rw [if_neg (show ¬ (false = true) by decide)] at H; exact H
    clear H
    have H := H1
    clear H1
    simp only [Option.some.injEq, Prod.mk.injEq] at H
    obtain ⟨rfl, rfl⟩ := H
    go_enter Try.func34, Try.ntmps34
    go_wp2_with (first | ((with_reducible refine gate_callee (f := 69) rfl ?_); refine goesL_ (some 13) rfl rfl Try.func69 (by kernel_rfl) rfl #[.slice A0 l0.length c0, .slice A1 l1.length c1] rfl argsB ?_; (with_reducible refine (impl_versions.calls k _ _ l0 _ _ l1 t313 false _ ?side1 ?side2 ?side3 ?side4 A4.out).mono ?_); (case side1 => repeat (first | exact HR0.out | (with_reducible refine Kd.C_alloc ?_ _) | (with_reducible refine Kd.C_drewN ?_ _) | (with_reducible refine Kd.C_drew ?_))); (case side2 => exact HC0.out); (case side3 => repeat (first | exact HR1.out | (with_reducible refine Kd.C_alloc ?_ _) | (with_reducible refine Kd.C_drewN ?_ _) | (with_reducible refine Kd.C_drew ?_))); (case side4 => exact HC1.out); rintro e w13 ⟨v315, rfl, ho0, hb⟩; refine ⟨_, rfl, ?_⟩; have n0_ := Aside0.mk (Kd.S_lower ho0 (below_size (upB HB.out))); have n1_ := Aside0.mk (below_step (upB HB.out) hb); clear HB; have HO316 := n0_; have HB := n1_; clear n0_ n1_; (try clear hb); (try clear hk); (try clear ho0)))
    go_ret2
    exact ⟨_, by first | rfl | (simp [errW_none, errW_some] <;> rfl) | (simp [*, errW_none, errW_some] <;> rfl), by first | exact Kd.R_nil _ _ _ _ _ | exact Kd.N_nil _ _ _ _ _ | exact Kd.V_nil _ _ _ _ _ | exact Kd.Q_nil _ _ _ _ _ | exact Kd.S_nil _ _ _ _ _, (upB HB.out)⟩

end Go.Proofs.Ytinelmmnajelaaa.QFnExactVersionAt
