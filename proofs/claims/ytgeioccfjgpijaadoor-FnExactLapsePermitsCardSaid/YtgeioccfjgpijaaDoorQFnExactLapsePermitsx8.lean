/- Contracts of Go functions that FnExactLapsePermits reaches: the call computes what the plain function says. No condition. -/
import Derived.Test.YtgeioccfjgpijaaDoorQFnExactLapsePermitsx0
import Derived.Test.YtgeioccfjgpijaaDoorQFnExactLapsePermitsx6
import Derived.Test.YtgeioccfjgpijaaDoorQFnExactLapsePermitsx7
namespace Go.Proofs.YtgeioccfjgpijaaDoor.QFnExactLapsePermits
open Go.RowKit Go.Proofs.YtgeioccfjgpijaaDoorW.PrintWords Go.Proofs.YtgeioccfjgpijaaDoorW.PrintLast Go.Proofs.YtgeioccfjgpijaaDoorW.PrintMore
attribute [local go_sem] max2_int min2_int max_two min_two max_three min_three max_four min_four   -- for this text's walks alone
set_option linter.unusedVariables false
set_option linter.unusedSimpArgs false

/-! ### impl_Permit_68: function 68 -/
def impl_Permit_68.f (l0 : List (S26)) : Option (List (S26)) := if l0.length * 56 ≤ 140737488351232 then some l0 else none
theorem infoC26 : (Tryd.prog.info? 26).map (fun i => (i.zero, i.size, i.bytes)) = some (some (.agg #[(.int .i64 0), (.string ByteArray.empty), (.int .i64 0), (.int .i64 0), (.int .i64 0), (.int .i64 0)]), 6, 56) := by kernel_rfl
set_option maxHeartbeats 4000000 in
set_option maxRecDepth 100000 in
theorem impl_Permit_68.calls (A0 : Option Addr) (c0 : Nat) (l0 : List (S26)) (r : List (S26)) (w : World) (hr0 : Kd.C k26 w A0 l0.length l0) (hc0 : l0.length ≤ c0) (h : impl_Permit_68.f l0 = some r) :
    Calls Tryd.prog 68 #[.slice A0 l0.length c0] w fun e w' => ∃ v0_ : Value, e = .returned (v0_) ∧ Kd.R k26 26 w' w.heap.size (fun _ => True) v0_ r ∧ Below w.heap.size w w' := by
  have q22 : ∀ (w : World) (a : Option Addr) (n c n' c' : Nat), (binOp .eql 32 (.slice a n c) (.slice none n' c')).run Tryd.prog w = .ok (.bool a.isNone) w := fun w a n c n' c' => Go.Lib.run_eql_slice_nil w _ _ a n c n' c' Tryd.underlying32
  unfold impl_Permit_68.f at h
  split at h
  · rename_i hb
    obtain rfl := Option.some.inj h
    cases A0 with
    | none =>
      have h0 : l0 = [] := by
        rcases Nat.eq_zero_or_pos l0.length with h0 | h0
        · exact List.eq_nil_of_length_eq_zero h0
        · obtain ⟨ad, he, _⟩ := hr0.2.2 h0
          cases he
      subst h0
      go_enter Tryd.func68, Tryd.ntmps68
      go_wp2
      go_ret
      exact ⟨_, rfl, Kd.R_nil _ _ _ _ _, Below.refl _ _⟩
    | some ad =>
      have HR := Aside0.mk hr0
      clear hr0
      go_enter Tryd.func68, Tryd.ntmps68
      go_wp2_with (first | ((with_reducible refine gate_dst (N := 5) rfl ?_); refine Kd.R_lit k26 _ 26 ?hg (N := 5) ?hd (xs := ([] : List (S26))) (inner := []) (ok := fun _ => True) (okp := fun _ => True) ?hr ?hp (fun _ hk => hk) trivial (Below.refl _ _) (Nat.le_refl _) (by simp) ?_; (case hd => rfl); (case hg => rfl); (case hr => first | (go_simp; done) | (go_simp; rfl)); (case hp => exact (Reps.none _ _)); intro v1 w1 ho hb1 _ _; have HO := Aside0.mk ho; have HB := Aside0.mk hb1; clear ho hb1) | ((with_reducible refine gate_builtin (b := .append) (xs := #[.tmp 5, .tmp 6]) rfl ?_); at_builtin; refine Kd.R_append_rows k26 (w0 := w) w.heap.size rfl (.tmp 5) (.tmp 6) 32 26 (.agg #[(.int .i64 0), (.string ByteArray.empty), (.int .i64 0), (.int .i64 0), (.int .i64 0), (.int .i64 0)]) 56 rfl Tryd.underlying32 infoC26 rfl (by decide) (by omega) _ ([] : List (S26)) l0 _ _ _ (fun _ => True) (fun _ => False) rfl rfl ?aO ?aR (fun _ _ h => h) (fun _ h => h.elim) ?aF ?aB ?aS ?aL ?_; (case aO => exact HO.out); (case aR => exact Kd.C_below HR.out HB.out); (case aF => exact fun _ _ => trivial); (case aB => exact HB.out); (case aS => exact below_size HB.out); (case aL => simp only [List.length_nil]; omega); intro v2 w2 ho2 hb2 _ _; have HO2 := Aside0.mk ho2; have HB2 := Aside0.mk hb2; clear ho2 hb2))
      go_ret
      refine ⟨_, rfl, ?_, HB2.out⟩
      have := HO2.out
      rwa [List.nil_append] at this
  · cases h


/-! ### impl_LapsePermits: function 32 -/
mutual
def impl_LapsePermits.j0 : Nat → List (S26) → Int → Bool → Option ((List (S26)) × Int × Bool)
  | 0, _, _, _ => none
  | k + 1, x0, x1, x18 => if x18 = true then (some (([] : List (S26)), 0, false)) else ((impl_Permit_68.f x0).bind fun t217 => (impl_LapsePermits.l0 k x1 t217 0 (t217.length : Int) 0))
def impl_LapsePermits.l0 : Nat → Int → List (S26) → Int → Int → Int → Option ((List (S26)) × Int × Bool)
  | 0, _, _, _, _, _ => none
  | k + 1, x1, x7, x8, x22, x23 => if x23 < x22 then (if 0 ≤ x23 then (if x23 < (x7.length : Int) then ((impl_Permit_counts.f ((rd_T26 x7 x23).f0) ((rd_T26 x7 x23).f1) ((rd_T26 x7 x23).f2) ((rd_T26 x7 x23).f3) ((rd_T26 x7 x23).f4) ((rd_T26 x7 x23).f5)).bind fun t222 => (if t222 = true then (if ((rd_T26 x7 x23).f3) < x1 then (impl_LapsePermits.l0 k x1 (x7.set (x23 : Int).toNat (⟨(rd_T26 x7 x23).f0, (rd_T26 x7 x23).f1, (rd_T26 x7 x23).f2, (rd_T26 x7 x23).f3, (rd_T26 x7 x23).f4, 4⟩ : S26)) (wrap64 (x8 + 1)) x22 (wrap64 (x23 + 1))) else (impl_LapsePermits.l0 k x1 x7 x8 x22 (wrap64 (x23 + 1)))) else (impl_LapsePermits.l0 k x1 x7 x8 x22 (wrap64 (x23 + 1))))) else (none)) else (none)) else (some (x7, x8, true))
end
def impl_LapsePermits.f (k : Nat) (l0 : List (S26)) (a1 : Int) : Option ((List (S26)) × Int × Bool) := (impl_ArePermits.f k l0).bind fun t215 => (if t215 = true then ((impl_isDay.f a1).bind fun t216 => (impl_LapsePermits.j0 k l0 a1 (!t216))) else (impl_LapsePermits.j0 k l0 a1 true))
theorem impl_LapsePermits.mono_l : ∀ k, (∀ y0 y1 y2, LeO (impl_LapsePermits.j0 k y0 y1 y2) (impl_LapsePermits.j0 (k + 1) y0 y1 y2)) ∧ (∀ y0 y1 y2 y3 y4, LeO (impl_LapsePermits.l0 k y0 y1 y2 y3 y4) (impl_LapsePermits.l0 (k + 1) y0 y1 y2 y3 y4))
  | 0 => ⟨fun _ _ _ r h => by simp [impl_LapsePermits.j0] at h, fun _ _ _ _ _ r h => by simp [impl_LapsePermits.l0] at h⟩
  | k + 1 => by
    obtain ⟨ih0, ih1⟩ := impl_LapsePermits.mono_l k
    refine ⟨?_, ?_⟩
    · intro y0 y1 y2
      unfold impl_LapsePermits.j0
      repeat' first
      | (with_reducible exact ih0 _ _ _)
      | (with_reducible exact ih1 _ _ _ _ _)
      | (with_reducible exact impl_ArePermits.mono _ _)
      | (with_reducible exact LeO.refl _)
      | (with_reducible exact LeO.none _)
      | (with_reducible refine LeO.ite ?_ ?_)
      | (with_reducible refine LeO.bind ?_ (fun _ => ?_))
      | exact ih0 _ _ _
      | exact ih1 _ _ _ _ _
      | exact impl_ArePermits.mono _ _
      | exact LeO.none _
      | refine LeO.ite ?_ ?_
      | refine LeO.bind ?_ (fun _ => ?_)
    · intro y0 y1 y2 y3 y4
      unfold impl_LapsePermits.l0
      repeat' first
      | (with_reducible exact ih0 _ _ _)
      | (with_reducible exact ih1 _ _ _ _ _)
      | (with_reducible exact impl_ArePermits.mono _ _)
      | (with_reducible exact LeO.refl _)
      | (with_reducible exact LeO.none _)
      | (with_reducible refine LeO.ite ?_ ?_)
      | (with_reducible refine LeO.bind ?_ (fun _ => ?_))
      | exact ih0 _ _ _
      | exact ih1 _ _ _ _ _
      | exact impl_ArePermits.mono _ _
      | exact LeO.none _
      | refine LeO.ite ?_ ?_
      | refine LeO.bind ?_ (fun _ => ?_)
theorem impl_LapsePermits.mono : ∀ a0 a1 k, LeO (impl_LapsePermits.f k a0 a1) (impl_LapsePermits.f (k + 1) a0 a1) := by
  intro a0 a1 k
  obtain ⟨ih0, ih1⟩ := impl_LapsePermits.mono_l k
  unfold impl_LapsePermits.f
  repeat' first
      | (with_reducible exact ih0 _ _ _)
      | (with_reducible exact ih1 _ _ _ _ _)
      | (with_reducible exact impl_ArePermits.mono _ _)
      | (with_reducible exact LeO.refl _)
      | (with_reducible exact LeO.none _)
      | (with_reducible refine LeO.ite ?_ ?_)
      | (with_reducible refine LeO.bind ?_ (fun _ => ?_))
      | exact ih0 _ _ _
      | exact ih1 _ _ _ _ _
      | exact impl_ArePermits.mono _ _
      | exact LeO.none _
      | refine LeO.ite ?_ ?_
      | refine LeO.bind ?_ (fun _ => ?_)
set_option maxHeartbeats 8000000 in
set_option maxRecDepth 100000 in
theorem impl_LapsePermits.calls (k : Nat) (A0 : Option Addr) (c0 : Nat) (l0 : List (S26)) (a1 : Int) (r1 : List (S26)) (r2 : Int) (r3 : Bool) (w : World) (hr0 : Kd.C k26 w A0 l0.length l0) (hc0 : l0.length ≤ c0) (h : impl_LapsePermits.f k l0 a1 = some (r1, r2, r3)) :
    Calls Tryd.prog 32 #[.slice A0 l0.length c0, .int .i64 a1] w fun e w' => ∃ v0_ : Value, e = .returned (.tuple #[v0_, .int .i64 r2, .bool r3]) ∧ Kd.R k26 26 w' w.heap.size (fun _ => True) v0_ r1 ∧ Below w.heap.size w w' := by
  have hu26 := Tryd.underlying26
  have HR0 := Aside0.mk hr0
  have HC0 := Aside0.mk hc0
  clear hr0 hc0
  have HB := Aside0.mk (Below.refl w.heap.size w)
  have H : ((impl_ArePermits.f k l0).bind fun t215 => (if t215 = true then ((impl_isDay.f a1).bind fun t216 => (impl_LapsePermits.j0 k l0 a1 (!t216))) else (impl_LapsePermits.j0 k l0 a1 true))) = some (r1, r2, r3) := h
  clear h
  have HC3 := Aside0.mk H
  clear H
  go_enter Tryd.func32, Tryd.ntmps32
  go_upto_region 1 with (fail)
  go_cut [18] (fun v18 wc => ∃ (kq : Nat) (x18_2 : Bool), v18 = .bool x18_2 ∧ Aside0 (impl_LapsePermits.j0 kq l0 a1 x18_2 = some (r1, r2, r3)) ∧ Aside0 (kq ≤ k) ∧ Aside0 (Below w.heap.size w wc))
  case first =>
    have H := HC3.out
    clear HC3
    replace H := Option.bind_eq_some_iff.mp H
    obtain ⟨t215, A40, H⟩ := H
    replace H : (if t215 = true then ((impl_isDay.f a1).bind fun t216 => (impl_LapsePermits.j0 k l0 a1 (!t216))) else (impl_LapsePermits.j0 k l0 a1 true)) = some (r1, r2, r3) := H
    have A4 := Aside0.mk A40
    clear A40
    by_cases c5 : t215 = true
    · subst c5
      have H1 : ((impl_isDay.f a1).bind fun t216 => (impl_LapsePermits.j0 k l0 a1 (!t216))) = some (r1, r2, r3) := by rw [if_pos rfl] at H; exact H
      clear H
      have H := H1
      clear H1
      replace H := Option.bind_eq_some_iff.mp H
      obtain ⟨t216, A60, H⟩ := H
      replace H : (impl_LapsePermits.j0 k l0 a1 (!t216)) = some (r1, r2, r3) := H
      have A6 := Aside0.mk A60
      clear A60
      have H' := Aside0.mk H
      clear H
      go_wp2_with (first | ((with_reducible refine gate_callee (f := 21) rfl ?_); refine goesL_ (some 12) rfl rfl Tryd.func21 (by kernel_rfl) rfl #[.slice A0 l0.length c0] rfl argsB ?_; (with_reducible refine (impl_ArePermits.calls k _ _ l0 true _ ?side1 ?side2 A4.out).mono ?_); (case side1 => repeat (first | exact (Kd.C_below HR0.out HB.out) | (with_reducible refine Kd.C_alloc ?_ _) | (with_reducible refine Kd.C_drewN ?_ _) | (with_reducible refine Kd.C_drew ?_))); (case side2 => exact HC0.out); rintro e w7 ⟨rfl, hb⟩; refine ⟨_, rfl, ?_⟩; have n0_ := Aside0.mk (below_step (upB HB.out) hb); clear HB; have HB := n0_; clear n0_; (try clear hb); (try clear hk)) | (go_at_call 56; (with_reducible refine (impl_isDay.calls a1 t216 _ A6.out).mono ?_); rintro e w' ⟨rfl, ⟨nd, rfl⟩⟩))
      go_meet
      case rel => exact ⟨_, (!t216), (by first | rfl | (simp; done) | (simp [*]; done)), H', ⟨by first | omega | exact Nat.le_refl _⟩, ⟨(upB HB.out)⟩⟩
    · replace c5 := Bool.eq_false_iff.mpr c5
      subst c5
      have H1 : (impl_LapsePermits.j0 k l0 a1 true) = some (r1, r2, r3) := by rw [if_neg (show ¬ (false = true) by decide)] at H; exact H
      clear H
      have H := H1
      clear H1
      have H' := Aside0.mk H
      clear H
      go_wp2_with (first | ((with_reducible refine gate_callee (f := 21) rfl ?_); refine goesL_ (some 12) rfl rfl Tryd.func21 (by kernel_rfl) rfl #[.slice A0 l0.length c0] rfl argsB ?_; (with_reducible refine (impl_ArePermits.calls k _ _ l0 false _ ?side1 ?side2 A4.out).mono ?_); (case side1 => repeat (first | exact (Kd.C_below HR0.out HB.out) | (with_reducible refine Kd.C_alloc ?_ _) | (with_reducible refine Kd.C_drewN ?_ _) | (with_reducible refine Kd.C_drew ?_))); (case side2 => exact HC0.out); rintro e w8 ⟨rfl, hb⟩; refine ⟨_, rfl, ?_⟩; have n0_ := Aside0.mk (below_step (upB HB.out) hb); clear HB; have HB := n0_; clear n0_; (try clear hb); (try clear hk)))
      go_meet
      case rel => exact ⟨_, (true), (by first | rfl | (simp; done) | (simp [*]; done)), H', ⟨by first | omega | exact Nat.le_refl _⟩, ⟨(upB HB.out)⟩⟩
  case rest =>
    clear HC3
    try clear c5
    obtain ⟨kq, x18_2, rfl, HA, HJ2, HB⟩ := hcut
    cases kq with
    | zero => exact absurd HA.out (by simp [impl_LapsePermits.j0])
    | succ kj2 =>
      have H := HA.out
      clear HA
      simp only [impl_LapsePermits.j0] at H
      by_cases c9 : x18_2 = true
      · subst c9
        have H1 : (some (([] : List (S26)), 0, false)) = some (r1, r2, r3) := by rw [if_pos rfl] at H; exact H
        clear H
        have H := H1
        clear H1
        simp only [Option.some.injEq, Prod.mk.injEq] at H
        obtain ⟨rfl, rfl, rfl⟩ := H
        go_wp2
        go_ret3
        exact ⟨_, by first | rfl | (simp [errW_none, errW_some] <;> rfl) | (simp [*, errW_none, errW_some] <;> rfl), by first | exact Kd.R_nil _ _ _ _ _ | exact Kd.N_nil _ _ _ _ _ | exact Kd.V_nil _ _ _ _ _ | exact Kd.Q_nil _ _ _ _ _ | exact Kd.S_nil _ _ _ _ _, (upB HB.out)⟩
      · replace c9 := Bool.eq_false_iff.mpr c9
        subst c9
        have H1 : ((impl_Permit_68.f l0).bind fun t217 => (impl_LapsePermits.l0 kj2 a1 t217 0 (t217.length : Int) 0)) = some (r1, r2, r3) := by rw [if_neg (show ¬ (false = true) by decide)] at H; exact H
        clear H
        have H := H1
        clear H1
        replace H := Option.bind_eq_some_iff.mp H
        obtain ⟨t217, A100, H⟩ := H
        replace H : (impl_LapsePermits.l0 kj2 a1 t217 0 (t217.length : Int) 0) = some (r1, r2, r3) := H
        have A10 := Aside0.mk A100
        clear A100
        have H' := Aside0.mk H
        clear H
        go_wp2_with (first | ((with_reducible refine gate_callee (f := 68) rfl ?_); refine goesL_ (some 20) rfl rfl Tryd.func68 (by kernel_rfl) rfl #[.slice A0 l0.length c0] rfl argsB ?_; (with_reducible refine (impl_Permit_68.calls _ _ l0 t217 _ ?side1 ?side2 A10.out).mono ?_); (case side1 => repeat (first | exact (Kd.C_below HR0.out HB.out) | (with_reducible refine Kd.C_alloc ?_ _) | (with_reducible refine Kd.C_drewN ?_ _) | (with_reducible refine Kd.C_drew ?_))); (case side2 => exact HC0.out); rintro e w11 ⟨v218, rfl, ho0, hb⟩; refine ⟨_, rfl, ?_⟩; have n0_ := Aside0.mk (Kd.R_lower ho0 (below_size (upB HB.out))); have n1_ := Aside0.mk (below_step (upB HB.out) hb); clear HB; have HO219 := n0_; have HB := n1_; clear n0_ n1_; (try clear hb); (try clear hk); (try clear ho0); obtain ⟨Ao12, co12, eo12⟩ := Kd.R_slice HO219.out; subst eo12))
        go_loopg [8, 23] kj2 (fun kq v8 v23 w' => ∃ (x7_2 : List (S26)) (x8_2 : Int) (x23_2 : Int), v8 = .int .i64 x8_2 ∧ v23 = .int .i64 x23_2 ∧ Aside0 (impl_LapsePermits.l0 kq a1 x7_2 x8_2 (t217.length : Int) x23_2 = some (r1, r2, r3)) ∧ Aside0 (kq ≤ kj2) ∧ Aside0 (Kd.R k26 26 w' w.heap.size (fun _ => True) (.slice Ao12 t217.length co12) x7_2) ∧ Aside0 (Below w.heap.size w w'))
        case atStart => exact ⟨(t217), (0), (0), (by first | rfl | (simp; done) | (simp [*]; done)), (by first | rfl | (simp; done) | (simp [*]; done)), H', ⟨Nat.le_refl _⟩, ⟨by (with_reducible repeat (first | apply Kd.R_alloc | apply Kd.R_drewN | apply Kd.R_drew)); exact HO219.out⟩, ⟨(upB HB.out)⟩⟩
        case round =>
          clear H'
          try clear c5
          try clear c9
          obtain ⟨x7_2, x8_2, x23_2, rfl, rfl, HA, HK2, HO_7, HB⟩ := hrel
          have hl7_2 := (Kd.R_reads' HO_7.out).1
          rw [hl7_2] at HO_7
          (try simp only [hl7_2])
          cases gk with
          | zero => exact absurd HA.out (by simp [impl_LapsePermits.l0])
          | succ k2 =>
            have H := HA.out
            clear HA
            simp only [impl_LapsePermits.l0] at H
            by_cases c13 : x23_2 < (t217.length : Int)
            · rw [if_pos c13] at H
              have c13b0 : decide (x23_2 < (t217.length : Int)) = true := decide_eq_true c13
              clear c13
              by_cases c14 : 0 ≤ x23_2
              · rw [if_pos c14] at H
                have c14b0 : decide (0 ≤ x23_2) = true := decide_eq_true c14
                clear c14
                by_cases c15 : x23_2 < (x7_2.length : Int)
                · rw [if_pos c15] at H
                  have c15b0 : decide (x23_2 < (x7_2.length : Int)) = true := decide_eq_true c15
                  clear c15
                  replace H := Option.bind_eq_some_iff.mp H
                  obtain ⟨t222, A160, H⟩ := H
                  replace H : (if t222 = true then (if ((rd_T26 x7_2 x23_2).f3) < a1 then (impl_LapsePermits.l0 k2 a1 (x7_2.set (x23_2 : Int).toNat (⟨(rd_T26 x7_2 x23_2).f0, (rd_T26 x7_2 x23_2).f1, (rd_T26 x7_2 x23_2).f2, (rd_T26 x7_2 x23_2).f3, (rd_T26 x7_2 x23_2).f4, 4⟩ : S26)) (wrap64 (x8_2 + 1)) (t217.length : Int) (wrap64 (x23_2 + 1))) else (impl_LapsePermits.l0 k2 a1 x7_2 x8_2 (t217.length : Int) (wrap64 (x23_2 + 1)))) else (impl_LapsePermits.l0 k2 a1 x7_2 x8_2 (t217.length : Int) (wrap64 (x23_2 + 1)))) = some (r1, r2, r3) := H
                  have A16 := Aside0.mk A160
                  clear A160
                  by_cases c17 : t222 = true
                  · subst c17
                    have H1 : (if ((rd_T26 x7_2 x23_2).f3) < a1 then (impl_LapsePermits.l0 k2 a1 (x7_2.set (x23_2 : Int).toNat (⟨(rd_T26 x7_2 x23_2).f0, (rd_T26 x7_2 x23_2).f1, (rd_T26 x7_2 x23_2).f2, (rd_T26 x7_2 x23_2).f3, (rd_T26 x7_2 x23_2).f4, 4⟩ : S26)) (wrap64 (x8_2 + 1)) (t217.length : Int) (wrap64 (x23_2 + 1))) else (impl_LapsePermits.l0 k2 a1 x7_2 x8_2 (t217.length : Int) (wrap64 (x23_2 + 1)))) = some (r1, r2, r3) := by rw [if_pos rfl] at H; exact H
                    clear H
                    have H := H1
                    clear H1
                    by_cases c18 : ((rd_T26 x7_2 x23_2).f3) < a1
                    · rw [if_pos c18] at H
                      have c18b0 : decide (((rd_T26 x7_2 x23_2).f3) < a1) = true := decide_eq_true c18
                      clear c18
                      obtain ⟨y223, hy223⟩ : ∃ y_ : List (S26), y_ = (x7_2.set (x23_2 : Int).toNat (⟨(rd_T26 x7_2 x23_2).f0, (rd_T26 x7_2 x23_2).f1, (rd_T26 x7_2 x23_2).f2, (rd_T26 x7_2 x23_2).f3, (rd_T26 x7_2 x23_2).f4, 4⟩ : S26)) := ⟨_, rfl⟩
                      replace H : (impl_LapsePermits.l0 k2 a1 y223 (wrap64 (x8_2 + 1)) (t217.length : Int) (wrap64 (x23_2 + 1))) = some (r1, r2, r3) := by first | (rw [hy223]; with_reducible exact H) | (have H2_ := (Option.bind_some _ _).symm.trans H; rw [hy223]; with_reducible exact H2_) | (have H2_ := (Option.bind_some _ _).symm.trans H; with_reducible exact H2_) | with_reducible exact H | (rw [hy223]; exact H) | exact H
                      have Ny223 := Aside0.mk hy223
                      clear hy223
                      have H' := Aside0.mk H
                      clear H
                      have p220 : 0 ≤ (x23_2 : Int) := of_decide_eq_true asmB
                      have q220 : x23_2 < (x7_2.length : Int) := of_decide_eq_true asmB
                      obtain ⟨ad220, e220, hx220_0, hx220_1, hx220_2, hx220_3, hx220_4, hx220_5⟩ := at_T26 (Kd.R_reads' HO_7.out).2.2 x23_2 p220 q220
                      cases e220
                      replace p220 := eq_true p220
                      replace q220 := eq_true q220
                      go_wp2_with (first | ((with_reducible refine gate_dst (N := 10) rfl ?_); refine box_event ?hg (N := 10) ?hd (cs := #[.int .i64 0, .string (⟨#[]⟩ : ByteArray), .int .i64 0, .int .i64 0, .int .i64 0, .int .i64 0]) (t := 26) ?hr ?_; (case hd => rfl); (case hg => rfl); (case hr => first | (go_simp; done) | (go_simp; rfl)); intro gb221 hg w20 hbox hb; have n0_ := Aside0.mk (Kd.R_below (Kd.R_elderB (upR HO_7.out) gb221 (Nat.le_of_eq hg.symm)) hb); have n1_ := Aside0.mk (below_step (upB HB.out) hb); have n2_ := Aside0.mk (hbox); have n3_ := Aside0.mk ((by rw [hg]; exact (below_size (upB HB.out)) : w.heap.size ≤ gb221)); have n4_ := Aside0.mk ((by rw [hg]; exact (below_size (upB HB.out)) : w.heap.size ≤ gb221)); clear HO_7; clear HB; have HO_7 := n0_; have HB := n1_; have BK221 := n2_; have GW221 := n3_; have GE221 := n4_; clear n0_ n1_ n2_ n3_ n4_; clear hb hbox hg; have hcz21_0 := ci BK221.out 0 0 rfl; have hcz21_1 : w20.cell? ⟨gb221, 1, none⟩ = some (.string (⟨#[]⟩ : ByteArray)) := (blk_cell BK221.out 1).trans rfl; have hcz21_2 := ci BK221.out 2 0 rfl; have hcz21_3 := ci BK221.out 3 0 rfl; have hcz21_4 := ci BK221.out 4 0 rfl; have hcz21_5 := ci BK221.out 5 0 rfl; have hfz21_0 := fun j_ : Nat => blk_frozen BK221.out j_) | ((with_reducible refine gate_callee (f := 72) rfl ?_); refine goesL_ (some 29) rfl rfl Tryd.func72 (by kernel_rfl) rfl #[.agg #[.int .i64 ((rd_T26 x7_2 x23_2).f0), .string ((rd_T26 x7_2 x23_2).f1), .int .i64 ((rd_T26 x7_2 x23_2).f2), .int .i64 ((rd_T26 x7_2 x23_2).f3), .int .i64 ((rd_T26 x7_2 x23_2).f4), .int .i64 ((rd_T26 x7_2 x23_2).f5)]] rfl argsB ?_; (with_reducible refine (impl_Permit_counts.calls ((rd_T26 x7_2 x23_2).f0) ((rd_T26 x7_2 x23_2).f1) ((rd_T26 x7_2 x23_2).f2) ((rd_T26 x7_2 x23_2).f3) ((rd_T26 x7_2 x23_2).f4) ((rd_T26 x7_2 x23_2).f5) true _ A16.out).mono ?_); rintro e w22 ⟨rfl, hb⟩; refine ⟨_, rfl, ?_⟩; have n0_ := Aside0.mk (Kd.R_below (by (with_reducible repeat (first | apply Kd.R_alloc | apply Kd.R_drewN | apply Kd.R_drew)); exact (Kd.R_mono (Kd.R_far (p := ⟨gb221, 5, none⟩) (Kd.R_far (p := ⟨gb221, 4, none⟩) (Kd.R_far (p := ⟨gb221, 3, none⟩) (Kd.R_far (p := ⟨gb221, 2, none⟩) (Kd.R_far (p := ⟨gb221, 1, none⟩) (Kd.R_far (p := ⟨gb221, 0, none⟩) (Kd.R_mono HO_7.out (fun k_ hk => (⟨hk, hk.2⟩ : _ ∧ k_ ≠ gb221))) (fun _ hk => hk.2) (.int .i64 ((rd_T26 x7_2 x23_2).f0))) (fun _ hk => hk.2) (.string ((rd_T26 x7_2 x23_2).f1))) (fun _ hk => hk.2) (.int .i64 ((rd_T26 x7_2 x23_2).f2))) (fun _ hk => hk.2) (.int .i64 ((rd_T26 x7_2 x23_2).f3))) (fun _ hk => hk.2) (.int .i64 ((rd_T26 x7_2 x23_2).f4))) (fun _ hk => hk.2) (.int .i64 ((rd_T26 x7_2 x23_2).f5))) (fun _ h_ => h_.1))) hb); have n1_ := Aside0.mk (blk_below (g := gb221) (o := .cells #[.int .i64 ((rd_T26 x7_2 x23_2).f0), .string ((rd_T26 x7_2 x23_2).f1), .int .i64 ((rd_T26 x7_2 x23_2).f2), .int .i64 ((rd_T26 x7_2 x23_2).f3), .int .i64 ((rd_T26 x7_2 x23_2).f4), .int .i64 ((rd_T26 x7_2 x23_2).f5)] 26 (0, 0)) (by (with_reducible repeat (first | refine blk_drewN ?_ _ | refine blk_drew ?_ | refine blk_alloc ?_ _)); refine blk_put (cs := #[.int .i64 ((rd_T26 x7_2 x23_2).f0), .string ((rd_T26 x7_2 x23_2).f1), .int .i64 ((rd_T26 x7_2 x23_2).f2), .int .i64 ((rd_T26 x7_2 x23_2).f3), .int .i64 ((rd_T26 x7_2 x23_2).f4), .int .i64 0]) ?_ 5 _ rfl; (with_reducible repeat (first | refine blk_drewN ?_ _ | refine blk_drew ?_ | refine blk_alloc ?_ _)); refine blk_put (cs := #[.int .i64 ((rd_T26 x7_2 x23_2).f0), .string ((rd_T26 x7_2 x23_2).f1), .int .i64 ((rd_T26 x7_2 x23_2).f2), .int .i64 ((rd_T26 x7_2 x23_2).f3), .int .i64 0, .int .i64 0]) ?_ 4 _ rfl; (with_reducible repeat (first | refine blk_drewN ?_ _ | refine blk_drew ?_ | refine blk_alloc ?_ _)); refine blk_put (cs := #[.int .i64 ((rd_T26 x7_2 x23_2).f0), .string ((rd_T26 x7_2 x23_2).f1), .int .i64 ((rd_T26 x7_2 x23_2).f2), .int .i64 0, .int .i64 0, .int .i64 0]) ?_ 3 _ rfl; (with_reducible repeat (first | refine blk_drewN ?_ _ | refine blk_drew ?_ | refine blk_alloc ?_ _)); refine blk_put (cs := #[.int .i64 ((rd_T26 x7_2 x23_2).f0), .string ((rd_T26 x7_2 x23_2).f1), .int .i64 0, .int .i64 0, .int .i64 0, .int .i64 0]) ?_ 2 _ rfl; (with_reducible repeat (first | refine blk_drewN ?_ _ | refine blk_drew ?_ | refine blk_alloc ?_ _)); refine blk_put (cs := #[.int .i64 ((rd_T26 x7_2 x23_2).f0), .string (⟨#[]⟩ : ByteArray), .int .i64 0, .int .i64 0, .int .i64 0, .int .i64 0]) ?_ 1 _ rfl; (with_reducible repeat (first | refine blk_drewN ?_ _ | refine blk_drew ?_ | refine blk_alloc ?_ _)); refine blk_put (cs := #[.int .i64 0, .string (⟨#[]⟩ : ByteArray), .int .i64 0, .int .i64 0, .int .i64 0, .int .i64 0]) ?_ 0 _ rfl; (with_reducible repeat (first | refine blk_drewN ?_ _ | refine blk_drew ?_ | refine blk_alloc ?_ _)); exact BK221.out) hb); have n2_ := Aside0.mk (below_step (upB1 HB.out GE221.out) hb); clear HO_7; clear BK221; clear HB; have HO_7 := n0_; have BK221 := n1_; have HB := n2_; clear n0_ n1_ n2_; (try clear hb); (try clear hk); have hcz23_0 := ci BK221.out 0 ((rd_T26 x7_2 x23_2).f0) rfl; have hcz23_1 : w22.cell? ⟨gb221, 1, none⟩ = some (.string ((rd_T26 x7_2 x23_2).f1)) := (blk_cell BK221.out 1).trans rfl; have hcz23_2 := ci BK221.out 2 ((rd_T26 x7_2 x23_2).f2) rfl; have hcz23_3 := ci BK221.out 3 ((rd_T26 x7_2 x23_2).f3) rfl; have hcz23_4 := ci BK221.out 4 ((rd_T26 x7_2 x23_2).f4) rfl; have hcz23_5 := ci BK221.out 5 ((rd_T26 x7_2 x23_2).f5) rfl; have hfz23_0 := fun j_ : Nat => blk_frozen BK221.out j_; have p19 : 0 ≤ (x23_2 : Int) := of_decide_eq_true asmB; have q19 : (x23_2 : Int) < ((x7_2.length : Int) : Int) := of_decide_eq_true asmB; obtain ⟨go19, co19, eo19, gb19, gl19, cl19, HG19⟩ := Kd.R_form HO_7.out (by omega); (first | cases eo19 | (injection eo19 with ea_ en_ ec_; (first | subst ea_ | (injection ea_ with ea_; subst ea_)); subst ec_; clear en_)); have GB19 := Aside0.mk gb19; have GG19 := Aside0.mk HG19; clear gb19 gl19 HG19; (first | simp only [add_plain] at hx220_0 | skip); (first | simp only [add_plain] at hx220_1 | skip); (first | simp only [add_plain] at hx220_2 | skip); (first | simp only [add_plain] at hx220_3 | skip); (first | simp only [add_plain] at hx220_4 | skip); (first | simp only [add_plain] at hx220_5 | skip); obtain ⟨ce19, hcl19, hM19, hcc19, hfr19⟩ := Kd.R_elem HO_7.out z26 (x23_2 : Int) p19 q19; obtain rfl := k26_openM hM19; have hx19_0 : w22.cell? ⟨go19, (x23_2 : Int).toNat * 6, none⟩ = some (.int .i64 ((rd_T26 x7_2 x23_2).f0)) := hcc19 0 _ rfl; have hx19_1 : w22.cell? ⟨go19, (x23_2 : Int).toNat * 6 + 1, none⟩ = some (.string ((rd_T26 x7_2 x23_2).f1)) := hcc19 1 _ rfl; have hx19_2 : w22.cell? ⟨go19, (x23_2 : Int).toNat * 6 + 2, none⟩ = some (.int .i64 ((rd_T26 x7_2 x23_2).f2)) := hcc19 2 _ rfl; have hx19_3 : w22.cell? ⟨go19, (x23_2 : Int).toNat * 6 + 3, none⟩ = some (.int .i64 ((rd_T26 x7_2 x23_2).f3)) := hcc19 3 _ rfl; have hx19_4 : w22.cell? ⟨go19, (x23_2 : Int).toNat * 6 + 4, none⟩ = some (.int .i64 ((rd_T26 x7_2 x23_2).f4)) := hcc19 4 _ rfl; have hx19_5 : w22.cell? ⟨go19, (x23_2 : Int).toNat * 6 + 5, none⟩ = some (.int .i64 ((rd_T26 x7_2 x23_2).f5)) := hcc19 5 _ rfl; have hf19_0 : w22.frozen? ⟨go19, (x23_2 : Int).toNat * 6, none⟩ = false := hfr19 0; have hf19_1 : w22.frozen? ⟨go19, (x23_2 : Int).toNat * 6 + 1, none⟩ = false := hfr19 1; have hf19_2 : w22.frozen? ⟨go19, (x23_2 : Int).toNat * 6 + 2, none⟩ = false := hfr19 2; have hf19_3 : w22.frozen? ⟨go19, (x23_2 : Int).toNat * 6 + 3, none⟩ = false := hfr19 3; have hf19_4 : w22.frozen? ⟨go19, (x23_2 : Int).toNat * 6 + 4, none⟩ = false := hfr19 4; have hf19_5 : w22.frozen? ⟨go19, (x23_2 : Int).toNat * 6 + 5, none⟩ = false := hfr19 5; clear hcl19 hcc19 hfr19 hM19; replace p19 := eq_true p19; replace q19 := eq_true q19; have n_ := Aside0.mk (Kd.R_mono (ok' := (fun k_ => k_ ≠ gb221)) HO_7.out (fun k_ hk => hk.2)); clear HO_7; have HO_7 := n_; clear n_; have HX24 := Aside0.mk (show Kd.R k26 26 w22 w.heap.size (fun k_ => k_ ≠ gb221) (.slice (some ⟨go19, 0, none⟩) x7_2.length co12) x7_2 from (upR HO_7.out)); obtain ⟨ce24, hcl24, hM24, hcc24, hfr24⟩ := Kd.R_elem HX24.out z26 (x23_2 : Int) (of_decide_eq_true asmB) (by have h_ : (x23_2 : Int) < ((x7_2.length : Int) : Int) := of_decide_eq_true asmB; first | exact h_ | (have e_ := (Kd.R_reads' HO_7.out).1; omega) | simpa using h_); obtain rfl := k26_openM hM24; have HP24 := Kd.R_seg HX24.out (x23_2 : Int) (of_decide_eq_true asmB) (by have h_ : (x23_2 : Int) < ((x7_2.length : Int) : Int) := of_decide_eq_true asmB; first | exact h_ | (have e_ := (Kd.R_reads' HO_7.out).1; omega) | simpa using h_) (seg := [.int .i64 4]) (j := 5) hcl24 hcc24 (show 6 ≤ 6 from by decide) (x' := (⟨(rd_T26 x7_2 x23_2).f0, (rd_T26 x7_2 x23_2).f1, (rd_T26 x7_2 x23_2).f2, (rd_T26 x7_2 x23_2).f3, (rd_T26 x7_2 x23_2).f4, 4⟩ : S26)) (k26_mkM _ _ _ (⟨(rd_T26 x7_2 x23_2).f0, (rd_T26 x7_2 x23_2).f1, (rd_T26 x7_2 x23_2).f2, (rd_T26 x7_2 x23_2).f3, (rd_T26 x7_2 x23_2).f4, 4⟩ : S26) ) (fun _ hk => hk); have hx24_5 := hcc24 5 _ rfl; (try simp only [show (k26).sz = 6 from rfl, Nat.mul_one, Nat.add_zero] at hx24_5); have hf24_5 := hfr24 5; (try simp only [show (k26).sz = 6 from rfl, Nat.mul_one, Nat.add_zero] at hf24_5); clear hcl24 hcc24 hfr24 hM24) | ((with_reducible refine gate_store (t := 3) (p := 39) rfl ?_); refine store_event (t := 3) (p := 39) (v := ?vo_w25) (w1 := (w22.setCell ⟨go19, (x23_2 : Int).toNat * 6 + 5, none⟩ (.int .i64 4))) ?hg ?ho ?hn ?hr ?_; (case ho => rfl); (case hg => rfl); (case hn => rfl); (case hr => first | (go_simp; done) | (go_simp; rfl)); intro w25 hw; have hg : w22.grownBy w25 (some go19) := (by rw [hw]; exact HP24.2); have hp_ : Kd.R k26 26 w25 w.heap.size (fun k_ => k_ ≠ gb221) (.slice (some ⟨go19, 0, none⟩) x7_2.length co12) y223 := (by rw [hw, Ny223.out]; exact HP24.1); clear HP24; have n0_ := Aside0.mk (hp_); have n1_ := Aside0.mk (blk_grown (g := gb221) (o := .cells #[.int .i64 ((rd_T26 x7_2 x23_2).f0), .string ((rd_T26 x7_2 x23_2).f1), .int .i64 ((rd_T26 x7_2 x23_2).f2), .int .i64 ((rd_T26 x7_2 x23_2).f3), .int .i64 ((rd_T26 x7_2 x23_2).f4), .int .i64 ((rd_T26 x7_2 x23_2).f5)] 26 (0, 0)) (upK BK221.out) hg (Kd.R_away HO_7.out (fun _ hk => hk))); have n2_ := Aside0.mk ((by rw [hw]; exact below_set (HB.out) GB19.out : Below w.heap.size w w25)); clear HO_7; clear BK221; clear HB; have HO_7 := n0_; have BK221 := n1_; have HB := n2_; clear n0_ n1_ n2_; clear hg hw hp_))
                      (try simp only [← hl7_2])
                      go_roundg k2
                      case measure => have := HJ2.out; have := HK2.out; omega
                      case rel => exact ⟨(y223), (wrap64 (x8_2 + 1)), (wrap64 (x23_2 + 1)), (by first | rfl | (simp; done) | (simp [*]; done)), (by first | rfl | (simp; done) | (simp [*]; done)), H', ⟨by have := HJ2.out; have := HK2.out; omega⟩, ⟨by (try simp only [hl7_2]); (with_reducible repeat (first | apply Kd.R_alloc | apply Kd.R_drewN | apply Kd.R_drew)); exact Kd.R_mono HO_7.out (fun _ hk => trivial)⟩, ⟨(upB1 HB.out GE221.out)⟩⟩
                    · rw [if_neg c18] at H
                      have c18b0 : decide (((rd_T26 x7_2 x23_2).f3) < a1) = false := decide_eq_false c18
                      clear c18
                      have H' := Aside0.mk H
                      clear H
                      have p220 : 0 ≤ (x23_2 : Int) := of_decide_eq_true asmB
                      have q220 : x23_2 < (x7_2.length : Int) := of_decide_eq_true asmB
                      obtain ⟨ad220, e220, hx220_0, hx220_1, hx220_2, hx220_3, hx220_4, hx220_5⟩ := at_T26 (Kd.R_reads' HO_7.out).2.2 x23_2 p220 q220
                      cases e220
                      replace p220 := eq_true p220
                      replace q220 := eq_true q220
                      go_wp2_with (first | ((with_reducible refine gate_dst (N := 10) rfl ?_); refine box_event ?hg (N := 10) ?hd (cs := #[.int .i64 0, .string (⟨#[]⟩ : ByteArray), .int .i64 0, .int .i64 0, .int .i64 0, .int .i64 0]) (t := 26) ?hr ?_; (case hd => rfl); (case hg => rfl); (case hr => first | (go_simp; done) | (go_simp; rfl)); intro gb221 hg w26 hbox hb; have n0_ := Aside0.mk (Kd.R_below (Kd.R_elderB (upR HO_7.out) gb221 (Nat.le_of_eq hg.symm)) hb); have n1_ := Aside0.mk (below_step (upB HB.out) hb); have n2_ := Aside0.mk (hbox); have n3_ := Aside0.mk ((by rw [hg]; exact (below_size (upB HB.out)) : w.heap.size ≤ gb221)); have n4_ := Aside0.mk ((by rw [hg]; exact (below_size (upB HB.out)) : w.heap.size ≤ gb221)); clear HO_7; clear HB; have HO_7 := n0_; have HB := n1_; have BK221 := n2_; have GW221 := n3_; have GE221 := n4_; clear n0_ n1_ n2_ n3_ n4_; clear hb hbox hg; have hcz27_0 := ci BK221.out 0 0 rfl; have hcz27_1 : w26.cell? ⟨gb221, 1, none⟩ = some (.string (⟨#[]⟩ : ByteArray)) := (blk_cell BK221.out 1).trans rfl; have hcz27_2 := ci BK221.out 2 0 rfl; have hcz27_3 := ci BK221.out 3 0 rfl; have hcz27_4 := ci BK221.out 4 0 rfl; have hcz27_5 := ci BK221.out 5 0 rfl; have hfz27_0 := fun j_ : Nat => blk_frozen BK221.out j_) | ((with_reducible refine gate_callee (f := 72) rfl ?_); refine goesL_ (some 29) rfl rfl Tryd.func72 (by kernel_rfl) rfl #[.agg #[.int .i64 ((rd_T26 x7_2 x23_2).f0), .string ((rd_T26 x7_2 x23_2).f1), .int .i64 ((rd_T26 x7_2 x23_2).f2), .int .i64 ((rd_T26 x7_2 x23_2).f3), .int .i64 ((rd_T26 x7_2 x23_2).f4), .int .i64 ((rd_T26 x7_2 x23_2).f5)]] rfl argsB ?_; (with_reducible refine (impl_Permit_counts.calls ((rd_T26 x7_2 x23_2).f0) ((rd_T26 x7_2 x23_2).f1) ((rd_T26 x7_2 x23_2).f2) ((rd_T26 x7_2 x23_2).f3) ((rd_T26 x7_2 x23_2).f4) ((rd_T26 x7_2 x23_2).f5) true _ A16.out).mono ?_); rintro e w28 ⟨rfl, hb⟩; refine ⟨_, rfl, ?_⟩; have n0_ := Aside0.mk (Kd.R_below (by (with_reducible repeat (first | apply Kd.R_alloc | apply Kd.R_drewN | apply Kd.R_drew)); exact (Kd.R_mono (Kd.R_far (p := ⟨gb221, 5, none⟩) (Kd.R_far (p := ⟨gb221, 4, none⟩) (Kd.R_far (p := ⟨gb221, 3, none⟩) (Kd.R_far (p := ⟨gb221, 2, none⟩) (Kd.R_far (p := ⟨gb221, 1, none⟩) (Kd.R_far (p := ⟨gb221, 0, none⟩) (Kd.R_mono HO_7.out (fun k_ hk => (⟨hk, hk.2⟩ : _ ∧ k_ ≠ gb221))) (fun _ hk => hk.2) (.int .i64 ((rd_T26 x7_2 x23_2).f0))) (fun _ hk => hk.2) (.string ((rd_T26 x7_2 x23_2).f1))) (fun _ hk => hk.2) (.int .i64 ((rd_T26 x7_2 x23_2).f2))) (fun _ hk => hk.2) (.int .i64 ((rd_T26 x7_2 x23_2).f3))) (fun _ hk => hk.2) (.int .i64 ((rd_T26 x7_2 x23_2).f4))) (fun _ hk => hk.2) (.int .i64 ((rd_T26 x7_2 x23_2).f5))) (fun _ h_ => h_.1))) hb); have n1_ := Aside0.mk (blk_below (g := gb221) (o := .cells #[.int .i64 ((rd_T26 x7_2 x23_2).f0), .string ((rd_T26 x7_2 x23_2).f1), .int .i64 ((rd_T26 x7_2 x23_2).f2), .int .i64 ((rd_T26 x7_2 x23_2).f3), .int .i64 ((rd_T26 x7_2 x23_2).f4), .int .i64 ((rd_T26 x7_2 x23_2).f5)] 26 (0, 0)) (by (with_reducible repeat (first | refine blk_drewN ?_ _ | refine blk_drew ?_ | refine blk_alloc ?_ _)); refine blk_put (cs := #[.int .i64 ((rd_T26 x7_2 x23_2).f0), .string ((rd_T26 x7_2 x23_2).f1), .int .i64 ((rd_T26 x7_2 x23_2).f2), .int .i64 ((rd_T26 x7_2 x23_2).f3), .int .i64 ((rd_T26 x7_2 x23_2).f4), .int .i64 0]) ?_ 5 _ rfl; (with_reducible repeat (first | refine blk_drewN ?_ _ | refine blk_drew ?_ | refine blk_alloc ?_ _)); refine blk_put (cs := #[.int .i64 ((rd_T26 x7_2 x23_2).f0), .string ((rd_T26 x7_2 x23_2).f1), .int .i64 ((rd_T26 x7_2 x23_2).f2), .int .i64 ((rd_T26 x7_2 x23_2).f3), .int .i64 0, .int .i64 0]) ?_ 4 _ rfl; (with_reducible repeat (first | refine blk_drewN ?_ _ | refine blk_drew ?_ | refine blk_alloc ?_ _)); refine blk_put (cs := #[.int .i64 ((rd_T26 x7_2 x23_2).f0), .string ((rd_T26 x7_2 x23_2).f1), .int .i64 ((rd_T26 x7_2 x23_2).f2), .int .i64 0, .int .i64 0, .int .i64 0]) ?_ 3 _ rfl; (with_reducible repeat (first | refine blk_drewN ?_ _ | refine blk_drew ?_ | refine blk_alloc ?_ _)); refine blk_put (cs := #[.int .i64 ((rd_T26 x7_2 x23_2).f0), .string ((rd_T26 x7_2 x23_2).f1), .int .i64 0, .int .i64 0, .int .i64 0, .int .i64 0]) ?_ 2 _ rfl; (with_reducible repeat (first | refine blk_drewN ?_ _ | refine blk_drew ?_ | refine blk_alloc ?_ _)); refine blk_put (cs := #[.int .i64 ((rd_T26 x7_2 x23_2).f0), .string (⟨#[]⟩ : ByteArray), .int .i64 0, .int .i64 0, .int .i64 0, .int .i64 0]) ?_ 1 _ rfl; (with_reducible repeat (first | refine blk_drewN ?_ _ | refine blk_drew ?_ | refine blk_alloc ?_ _)); refine blk_put (cs := #[.int .i64 0, .string (⟨#[]⟩ : ByteArray), .int .i64 0, .int .i64 0, .int .i64 0, .int .i64 0]) ?_ 0 _ rfl; (with_reducible repeat (first | refine blk_drewN ?_ _ | refine blk_drew ?_ | refine blk_alloc ?_ _)); exact BK221.out) hb); have n2_ := Aside0.mk (below_step (upB1 HB.out GE221.out) hb); clear HO_7; clear BK221; clear HB; have HO_7 := n0_; have BK221 := n1_; have HB := n2_; clear n0_ n1_ n2_; (try clear hb); (try clear hk); have hcz29_0 := ci BK221.out 0 ((rd_T26 x7_2 x23_2).f0) rfl; have hcz29_1 : w28.cell? ⟨gb221, 1, none⟩ = some (.string ((rd_T26 x7_2 x23_2).f1)) := (blk_cell BK221.out 1).trans rfl; have hcz29_2 := ci BK221.out 2 ((rd_T26 x7_2 x23_2).f2) rfl; have hcz29_3 := ci BK221.out 3 ((rd_T26 x7_2 x23_2).f3) rfl; have hcz29_4 := ci BK221.out 4 ((rd_T26 x7_2 x23_2).f4) rfl; have hcz29_5 := ci BK221.out 5 ((rd_T26 x7_2 x23_2).f5) rfl; have hfz29_0 := fun j_ : Nat => blk_frozen BK221.out j_))
                      (try simp only [← hl7_2])
                      go_roundg k2
                      case measure => have := HJ2.out; have := HK2.out; omega
                      case rel => exact ⟨(x7_2), (x8_2), (wrap64 (x23_2 + 1)), (by first | rfl | (simp; done) | (simp [*]; done)), (by first | rfl | (simp; done) | (simp [*]; done)), H', ⟨by have := HJ2.out; have := HK2.out; omega⟩, ⟨by (try simp only [hl7_2]); (with_reducible repeat (first | apply Kd.R_alloc | apply Kd.R_drewN | apply Kd.R_drew)); exact Kd.R_mono HO_7.out (fun _ hk => trivial)⟩, ⟨(upB1 HB.out GE221.out)⟩⟩
                  · replace c17 := Bool.eq_false_iff.mpr c17
                    subst c17
                    have H1 : (impl_LapsePermits.l0 k2 a1 x7_2 x8_2 (t217.length : Int) (wrap64 (x23_2 + 1))) = some (r1, r2, r3) := by rw [if_neg (show ¬ (false = true) by decide)] at H; exact H
                    clear H
                    have H := H1
                    clear H1
                    have H' := Aside0.mk H
                    clear H
                    have p220 : 0 ≤ (x23_2 : Int) := of_decide_eq_true asmB
                    have q220 : x23_2 < (x7_2.length : Int) := of_decide_eq_true asmB
                    obtain ⟨ad220, e220, hx220_0, hx220_1, hx220_2, hx220_3, hx220_4, hx220_5⟩ := at_T26 (Kd.R_reads' HO_7.out).2.2 x23_2 p220 q220
                    cases e220
                    replace p220 := eq_true p220
                    replace q220 := eq_true q220
                    go_wp2_with (first | ((with_reducible refine gate_dst (N := 10) rfl ?_); refine box_event ?hg (N := 10) ?hd (cs := #[.int .i64 0, .string (⟨#[]⟩ : ByteArray), .int .i64 0, .int .i64 0, .int .i64 0, .int .i64 0]) (t := 26) ?hr ?_; (case hd => rfl); (case hg => rfl); (case hr => first | (go_simp; done) | (go_simp; rfl)); intro gb221 hg w30 hbox hb; have n0_ := Aside0.mk (Kd.R_below (Kd.R_elderB (upR HO_7.out) gb221 (Nat.le_of_eq hg.symm)) hb); have n1_ := Aside0.mk (below_step (upB HB.out) hb); have n2_ := Aside0.mk (hbox); have n3_ := Aside0.mk ((by rw [hg]; exact (below_size (upB HB.out)) : w.heap.size ≤ gb221)); have n4_ := Aside0.mk ((by rw [hg]; exact (below_size (upB HB.out)) : w.heap.size ≤ gb221)); clear HO_7; clear HB; have HO_7 := n0_; have HB := n1_; have BK221 := n2_; have GW221 := n3_; have GE221 := n4_; clear n0_ n1_ n2_ n3_ n4_; clear hb hbox hg; have hcz31_0 := ci BK221.out 0 0 rfl; have hcz31_1 : w30.cell? ⟨gb221, 1, none⟩ = some (.string (⟨#[]⟩ : ByteArray)) := (blk_cell BK221.out 1).trans rfl; have hcz31_2 := ci BK221.out 2 0 rfl; have hcz31_3 := ci BK221.out 3 0 rfl; have hcz31_4 := ci BK221.out 4 0 rfl; have hcz31_5 := ci BK221.out 5 0 rfl; have hfz31_0 := fun j_ : Nat => blk_frozen BK221.out j_) | ((with_reducible refine gate_callee (f := 72) rfl ?_); refine goesL_ (some 29) rfl rfl Tryd.func72 (by kernel_rfl) rfl #[.agg #[.int .i64 ((rd_T26 x7_2 x23_2).f0), .string ((rd_T26 x7_2 x23_2).f1), .int .i64 ((rd_T26 x7_2 x23_2).f2), .int .i64 ((rd_T26 x7_2 x23_2).f3), .int .i64 ((rd_T26 x7_2 x23_2).f4), .int .i64 ((rd_T26 x7_2 x23_2).f5)]] rfl argsB ?_; (with_reducible refine (impl_Permit_counts.calls ((rd_T26 x7_2 x23_2).f0) ((rd_T26 x7_2 x23_2).f1) ((rd_T26 x7_2 x23_2).f2) ((rd_T26 x7_2 x23_2).f3) ((rd_T26 x7_2 x23_2).f4) ((rd_T26 x7_2 x23_2).f5) false _ A16.out).mono ?_); rintro e w32 ⟨rfl, hb⟩; refine ⟨_, rfl, ?_⟩; have n0_ := Aside0.mk (Kd.R_below (by (with_reducible repeat (first | apply Kd.R_alloc | apply Kd.R_drewN | apply Kd.R_drew)); exact (Kd.R_mono (Kd.R_far (p := ⟨gb221, 5, none⟩) (Kd.R_far (p := ⟨gb221, 4, none⟩) (Kd.R_far (p := ⟨gb221, 3, none⟩) (Kd.R_far (p := ⟨gb221, 2, none⟩) (Kd.R_far (p := ⟨gb221, 1, none⟩) (Kd.R_far (p := ⟨gb221, 0, none⟩) (Kd.R_mono HO_7.out (fun k_ hk => (⟨hk, hk.2⟩ : _ ∧ k_ ≠ gb221))) (fun _ hk => hk.2) (.int .i64 ((rd_T26 x7_2 x23_2).f0))) (fun _ hk => hk.2) (.string ((rd_T26 x7_2 x23_2).f1))) (fun _ hk => hk.2) (.int .i64 ((rd_T26 x7_2 x23_2).f2))) (fun _ hk => hk.2) (.int .i64 ((rd_T26 x7_2 x23_2).f3))) (fun _ hk => hk.2) (.int .i64 ((rd_T26 x7_2 x23_2).f4))) (fun _ hk => hk.2) (.int .i64 ((rd_T26 x7_2 x23_2).f5))) (fun _ h_ => h_.1))) hb); have n1_ := Aside0.mk (blk_below (g := gb221) (o := .cells #[.int .i64 ((rd_T26 x7_2 x23_2).f0), .string ((rd_T26 x7_2 x23_2).f1), .int .i64 ((rd_T26 x7_2 x23_2).f2), .int .i64 ((rd_T26 x7_2 x23_2).f3), .int .i64 ((rd_T26 x7_2 x23_2).f4), .int .i64 ((rd_T26 x7_2 x23_2).f5)] 26 (0, 0)) (by (with_reducible repeat (first | refine blk_drewN ?_ _ | refine blk_drew ?_ | refine blk_alloc ?_ _)); refine blk_put (cs := #[.int .i64 ((rd_T26 x7_2 x23_2).f0), .string ((rd_T26 x7_2 x23_2).f1), .int .i64 ((rd_T26 x7_2 x23_2).f2), .int .i64 ((rd_T26 x7_2 x23_2).f3), .int .i64 ((rd_T26 x7_2 x23_2).f4), .int .i64 0]) ?_ 5 _ rfl; (with_reducible repeat (first | refine blk_drewN ?_ _ | refine blk_drew ?_ | refine blk_alloc ?_ _)); refine blk_put (cs := #[.int .i64 ((rd_T26 x7_2 x23_2).f0), .string ((rd_T26 x7_2 x23_2).f1), .int .i64 ((rd_T26 x7_2 x23_2).f2), .int .i64 ((rd_T26 x7_2 x23_2).f3), .int .i64 0, .int .i64 0]) ?_ 4 _ rfl; (with_reducible repeat (first | refine blk_drewN ?_ _ | refine blk_drew ?_ | refine blk_alloc ?_ _)); refine blk_put (cs := #[.int .i64 ((rd_T26 x7_2 x23_2).f0), .string ((rd_T26 x7_2 x23_2).f1), .int .i64 ((rd_T26 x7_2 x23_2).f2), .int .i64 0, .int .i64 0, .int .i64 0]) ?_ 3 _ rfl; (with_reducible repeat (first | refine blk_drewN ?_ _ | refine blk_drew ?_ | refine blk_alloc ?_ _)); refine blk_put (cs := #[.int .i64 ((rd_T26 x7_2 x23_2).f0), .string ((rd_T26 x7_2 x23_2).f1), .int .i64 0, .int .i64 0, .int .i64 0, .int .i64 0]) ?_ 2 _ rfl; (with_reducible repeat (first | refine blk_drewN ?_ _ | refine blk_drew ?_ | refine blk_alloc ?_ _)); refine blk_put (cs := #[.int .i64 ((rd_T26 x7_2 x23_2).f0), .string (⟨#[]⟩ : ByteArray), .int .i64 0, .int .i64 0, .int .i64 0, .int .i64 0]) ?_ 1 _ rfl; (with_reducible repeat (first | refine blk_drewN ?_ _ | refine blk_drew ?_ | refine blk_alloc ?_ _)); refine blk_put (cs := #[.int .i64 0, .string (⟨#[]⟩ : ByteArray), .int .i64 0, .int .i64 0, .int .i64 0, .int .i64 0]) ?_ 0 _ rfl; (with_reducible repeat (first | refine blk_drewN ?_ _ | refine blk_drew ?_ | refine blk_alloc ?_ _)); exact BK221.out) hb); have n2_ := Aside0.mk (below_step (upB1 HB.out GE221.out) hb); clear HO_7; clear BK221; clear HB; have HO_7 := n0_; have BK221 := n1_; have HB := n2_; clear n0_ n1_ n2_; (try clear hb); (try clear hk)))
                    (try simp only [← hl7_2])
                    go_roundg k2
                    case measure => have := HJ2.out; have := HK2.out; omega
                    case rel => exact ⟨(x7_2), (x8_2), (wrap64 (x23_2 + 1)), (by first | rfl | (simp; done) | (simp [*]; done)), (by first | rfl | (simp; done) | (simp [*]; done)), H', ⟨by have := HJ2.out; have := HK2.out; omega⟩, ⟨by (try simp only [hl7_2]); (with_reducible repeat (first | apply Kd.R_alloc | apply Kd.R_drewN | apply Kd.R_drew)); exact Kd.R_mono HO_7.out (fun _ hk => trivial)⟩, ⟨(upB1 HB.out GE221.out)⟩⟩
                · rw [if_neg c15] at H
                  exact absurd H (by simp)
              · rw [if_neg c14] at H
                exact absurd H (by simp)
            · rw [if_neg c13] at H
              have c13b0 : decide (x23_2 < (t217.length : Int)) = false := decide_eq_false c13
              clear c13
              simp only [Option.some.injEq, Prod.mk.injEq] at H
              obtain ⟨rfl, rfl, rfl⟩ := H
              (try rw [hl7_2] at c13b0)
              go_wp2
              go_ret3
              exact ⟨_, by first | rfl | (simp [errW_none, errW_some] <;> rfl) | (simp [*, errW_none, errW_some] <;> rfl), by (with_reducible repeat (first | apply Kd.R_alloc | apply Kd.R_drewN | apply Kd.R_drew)); exact HO_7.out, (upB HB.out)⟩

end Go.Proofs.YtgeioccfjgpijaaDoor.QFnExactLapsePermits
