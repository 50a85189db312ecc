/- Contracts of Go functions that FnDiffs reaches: the call computes what the plain function says. No condition. -/
import Derived.Test.YtinelmmnajelaaaQFnDiffsx0
import Derived.Test.YtinelmmnajelaaaQFnDiffsx1
import Derived.Test.YtinelmmnajelaaaQFnDiffsx4
import Derived.Test.YtinelmmnajelaaaQFnDiffsx6
import Derived.Test.YtinelmmnajelaaaQFnDiffsx8
import Derived.Test.YtinelmmnajelaaaQFnDiffsx9
namespace Go.Proofs.Ytinelmmnajelaaa.QFnDiffs
open Go.RowKit Go.Proofs.YtinelmmnajelaaaW.PrintWords Go.Proofs.YtinelmmnajelaaaW.PrintLast Go.Proofs.YtinelmmnajelaaaW.PrintMore
attribute [local go_sem] max2_int min2_int max_two min_two max_three min_three max_four min_four   -- for this text's walks alone
set_option linter.unusedVariables false
set_option linter.unusedSimpArgs false

attribute [local go_sem high] eqA26
/-! ### impl_versions: function 69 -/
mutual
def impl_versions.j0 : Nat → List (S26) → List (S28) → List (List (S26)) → Bool → Option ((List (List (S26))) × Bool)
 | 0, _, _, _, _ => none
 | k + 1, x0, x1, x4, x18 => if x18 = true then (some (([] : List (List (S26))), false)) else ((impl_Leg_91.f x0).bind fun t188 => (if x4.length < 5864062014805 then (impl_versions.l0 k (x4 ++ [t188]) x1 (x1.length : Int) 0) else (none)))
def impl_versions.l0 : Nat → List (List (S26)) → List (S28) → Int → Int → Option ((List (List (S26))) × Bool)
 | 0, _, _, _, _ => none
 | k + 1, x6, x22, x23, x24 => if x24 < x23 then (if 0 ≤ x24 then (if x24 < (x22.length : Int) then (if x24 < (x6.length : Int) then ((impl_apply.f k (rd_L3 x6 x24) ((rd_T28 x22 x24).f0) ((rd_T28 x22 x24).f1) ((rd_T28 x22 x24).f2.f0) ((rd_T28 x22 x24).f2.f1) ((rd_T28 x22 x24).f2.f2) ((rd_T28 x22 x24).f2.f3) ((rd_T28 x22 x24).f2.f4) ((rd_T28 x22 x24).f3.f0) ((rd_T28 x22 x24).f3.f1) ((rd_T28 x22 x24).f3.f2) ((rd_T28 x22 x24).f3.f3) ((rd_T28 x22 x24).f3.f4)).bind fun bt197 => (if bt197.2 = true then (if x6.length < 5864062014805 then (impl_versions.l0 k (x6 ++ [bt197.1]) x22 x23 (wrap64 (x24 + 1))) else (none)) else (some (([] : List (List (S26))), false)))) else (none)) else (none)) else (none)) else (some (x6, true))
end
def impl_versions.f (k : Nat) (l0 : List (S26)) (l1 : List (S28)) : Option ((List (List (S26))) × Bool) := (impl_areLegs.f k l0).bind fun t187 => (if t187 = true then (impl_versions.j0 k l0 l1 ([] : List (List (S26))) (decide ((l1.length : Int) > 10))) else (impl_versions.j0 k l0 l1 ([] : List (List (S26))) true))
theorem impl_versions.mono_l : ∀ k, (∀ y0 y1 y2 y3, LeO (impl_versions.j0 k y0 y1 y2 y3) (impl_versions.j0 (k + 1) y0 y1 y2 y3)) ∧ (∀ y0 y1 y2 y3, LeO (impl_versions.l0 k y0 y1 y2 y3) (impl_versions.l0 (k + 1) y0 y1 y2 y3))
 | 0 => ⟨fun _ _ _ _ r h => by simp [impl_versions.j0] at h, fun _ _ _ _ r h => by simp [impl_versions.l0] at h⟩
 | k + 1 => by
  obtain ⟨ih0, ih1⟩ := impl_versions.mono_l k
  refine ⟨?_, ?_⟩
  ·intro y0 y1 y2 y3
   unfold impl_versions.j0
   repeat' with_reducible first | apply ih0 | apply ih1 | apply impl_apply.mono | apply impl_areLegs.mono | exact LeO.refl _ | exact LeO.none _ | refine LeO.ite ?_ ?_ | refine LeO.bind ?_ (fun _ => ?_)
  ·intro y0 y1 y2 y3
   unfold impl_versions.l0
   repeat' with_reducible first | apply ih0 | apply ih1 | apply impl_apply.mono | apply impl_areLegs.mono | exact LeO.refl _ | exact LeO.none _ | refine LeO.ite ?_ ?_ | refine LeO.bind ?_ (fun _ => ?_)
theorem impl_versions.mono : ∀ a0 a1 k, LeO (impl_versions.f k a0 a1) (impl_versions.f (k + 1) a0 a1) := by
 intro a0 a1 k
 obtain ⟨ih0, ih1⟩ := impl_versions.mono_l k
 unfold impl_versions.f
 repeat' with_reducible first | apply ih0 | apply ih1 | apply impl_apply.mono | apply impl_areLegs.mono | exact LeO.refl _ | exact LeO.none _ | refine LeO.ite ?_ ?_ | refine LeO.bind ?_ (fun _ => ?_)
def impl_versions.T7 : Bool × List (List Nat × List Nat) := (true, [([], []), ([], []), ([0, 1], [0, 1]), ([2], [2]), ([], []), ([3, 4], [3, 4]), ([5], [5]), ([6], [6]), ([6], [6]), ([7, 5, 0, 1, 2, 3, 4, 5, 6, 7], [7]), ([8, 9, 0, 1, 2, 3, 4, 5, 6, 7, 8, 9], [8])])
def impl_versions.B7 : List Nat := [0, 0, 3, 7, 0, 31, 63, 127, 127, 255, 1023]
theorem impl_versions.tab7 : rtab .any (opsOf Try.f69 7) = impl_versions.T7 := by kernel_rfl
theorem impl_versions.bits7 : waitsOk impl_versions.T7.2 impl_versions.B7 = true := by kernel_rfl
set_option maxHeartbeats 8000000 in
set_option maxRecDepth 100000 in
theorem impl_versions.calls (k : Nat) (A0 : Option Addr) (c0 : Nat) (l0 : List (S26)) (A1 : Option Addr) (c1 : Nat) (l1 : List (S28)) (r1 : List (List (S26))) (r2 : Bool) (w : World) (hr0 : Kd.C k26 w A0 l0.length l0) (hc0 : l0.length ≤ c0) (hr1 : Kd.C k28 w A1 l1.length l1) (hc1 : l1.length ≤ c1) (h : impl_versions.f k l0 l1 = some (r1, r2)) :
  Calls Try.prog 69 #[.slice A0 l0.length c0, .slice A1 l1.length c1] w fun e w' => ∃ v0_ : Value, e = .returned (.tuple #[v0_, .bool r2]) ∧ Kd.S (Kd.slice 26 k26) 39 w' w.heap.size (fun _ => True) v0_ r1 ∧ Below w.heap.size w w' := by
 have hu28 := Try.underlying28
 have HR0 := Aside0.mk hr0
 have HC0 := Aside0.mk hc0
 clear hr0 hc0
 have HR1 := Aside0.mk hr1
 have HC1 := Aside0.mk hc1
 clear hr1 hc1
 have HB := Aside0.mk (Below.refl w.heap.size w)
 have H := h
 clear h
 unfold impl_versions.f at H
 have HC3 := Aside0.mk H
 clear H
 go_enter Try.func69, Try.ntmps69
 go_upto_region 1 with (fail)
 go_cut [18] (fun v18 wc => ∃ (kq : Nat) (x18_2 : Bool), v18 = .bool x18_2 ∧ Aside0 (impl_versions.j0 kq l0 l1 ([] : List (List (S26))) x18_2 = some (r1, r2)) ∧ Aside0 (kq ≤ k) ∧ Aside0 (Kd.S (Kd.slice 26 k26) 39 wc w.heap.size (fun _ => True) (.slice none 0 0) ([] : List (List (S26)))) ∧ Aside0 (Below w.heap.size w wc))
 case first =>
  have H := HC3.out
  clear HC3
  replace H := bA H
  obtain ⟨t187, A4, H⟩ := H
  rcases Bool.eq_false_or_eq_true t187 with rfl | rfl
  ·replace H := iT rfl H
   have H' := Aside0.mk H
   clear H
   go_wp2_with (first | ((with_reducible refine gC 65 ?_); refine lA (some 12) Try.func65 (impl_areLegs.calls k _ _ l0 true _ ?side1 ?side2 A4.out) ?_; (case side1 => repeat (first | exact (Kd.C_below HR0.out HB.out) | (with_reducible refine Kd.C_alloc ?_ _) | (with_reducible refine Kd.C_drewN ?_ _) | (with_reducible refine Kd.C_drew ?_))); (case side2 => exact HC0.out); intro w6 hb; replace HB := uB HB hb; (try clear hb); (try clear hk)))
   go_meet
   case rel => exact ⟨_, (decide ((l1.length : Int) > 10)), rB, H', leB, ⟨by first | exact Kd.S_nil _ _ _ _ _ | exact Kd.N_nil _ _ _ _ _ | exact Kd.V_nil _ _ _ _ _ | exact Kd.Q_nil _ _ _ _ _ | exact Kd.R_nil _ _ _ _ _⟩, (aB HB)⟩
  ·replace H := iF (by decide) H
   have H' := Aside0.mk H
   clear H
   go_wp2_with (first | ((with_reducible refine gC 65 ?_); refine lA (some 12) Try.func65 (impl_areLegs.calls k _ _ l0 false _ ?side1 ?side2 A4.out) ?_; (case side1 => repeat (first | exact (Kd.C_below HR0.out HB.out) | (with_reducible refine Kd.C_alloc ?_ _) | (with_reducible refine Kd.C_drewN ?_ _) | (with_reducible refine Kd.C_drew ?_))); (case side2 => exact HC0.out); intro w7 hb; replace HB := uB HB hb; (try clear hb); (try clear hk)))
   go_meet
   case rel => exact ⟨_, (true), rB, H', leB, ⟨by first | exact Kd.S_nil _ _ _ _ _ | exact Kd.N_nil _ _ _ _ _ | exact Kd.V_nil _ _ _ _ _ | exact Kd.Q_nil _ _ _ _ _ | exact Kd.R_nil _ _ _ _ _⟩, (aB HB)⟩
 case rest =>
  clear HC3
  try clear c1
  obtain ⟨kq, x18_2, rfl, HA, HJ2, HO_4, HB⟩ := hcut
  cases kq with
  | zero => exact absurd HA.out (by simp [impl_versions.j0])
  | succ kj2 =>
   have H := HA.out
   clear HA
   simp only [impl_versions.j0] at H
   rcases Bool.eq_false_or_eq_true x18_2 with rfl | rfl
   ·replace H := iT rfl H
    simp only [Option.some.injEq, Prod.mk.injEq] at H
    obtain ⟨rfl, rfl⟩ := H
    go_wp2
    go_ret2
    exact ⟨_, eB, by first | exact Kd.S_nil _ _ _ _ _ | exact Kd.N_nil _ _ _ _ _ | exact Kd.V_nil _ _ _ _ _ | exact Kd.Q_nil _ _ _ _ _ | exact Kd.R_nil _ _ _ _ _, (bW HB)⟩
   ·replace H := iF (by decide) H
    replace H := bA H
    obtain ⟨t188, A9, H⟩ := H
    by_cases c10 : ([] : List (List (S26))).length < 5864062014805
    ·rw [if_pos c10] at H
     have LMc10 := Aside0.mk c10
     clear c10
     obtain ⟨y191, hy191⟩ : ∃ y_ : List (List (S26)), y_ = (([] : List (List (S26))) ++ [t188]) := ⟨_, rfl⟩
     replace H : (impl_versions.l0 kj2 y191 l1 (l1.length : Int) 0) = some (r1, r2) := by first | (rw [hy191]; with_reducible exact H) | (have H2_ := (Option.bind_some _ _).symm.trans H; rw [hy191]; with_reducible exact H2_) | (have H2_ := (Option.bind_some _ _).symm.trans H; with_reducible exact H2_) | with_reducible exact H | (rw [hy191]; exact H) | exact H
     have Ny191 := Aside0.mk hy191
     clear hy191
     have H' := Aside0.mk H
     clear H
     go_wp2_with (first | ((with_reducible refine gate_callee (f := 91) rfl ?_); refine goesL_ (some 20) rfl rfl Try.func91 (by kernel_rfl) rfl #[.slice A0 l0.length c0] rfl argsB ?_; (with_reducible refine (impl_Leg_91.calls _ _ l0 t188 _ ?side1 ?side2 A9.out).mono ?_); (case side1 => repeat (first | exact (Kd.C_below HR0.out HB.out) | (with_reducible refine Kd.C_alloc ?_ _) | (with_reducible refine Kd.C_drewN ?_ _) | (with_reducible refine Kd.C_drew ?_))); (case side2 => exact HC0.out); rintro e w11 ⟨v189, rfl, ho0, hb⟩; refine ⟨_, rfl, ?_⟩; have HO190 := Aside0.mk (Kd.R_lower ho0 (below_size (bW HB))); replace HO_4 := Aside0.mk (Kd.S_elder' (by (with_reducible repeat (first | apply Kd.S_alloc | apply Kd.S_drewN | apply Kd.S_drew)); exact HO_4.out) (Kd.R_base ho0) hb); replace HB := uB HB hb; (try clear hb); (try clear hk); (try clear ho0); obtain ⟨Ao13, co13, eo13⟩ := Kd.R_slice HO190.out; subst eo13) | ((with_reducible refine gate_dst (N := 21) rfl ?_); refine Kd.S_lits (Kd.slice 26 k26) (w0 := w) w.heap.size 39 ?hg (N := 21) ?hd (xs := (([] : List (List (S26))) ++ [t188])) (inner := [.slice Ao13 t188.length co13]) (ok := fun _ => True) (fun j_ k_ => j_ = 0 ∧ some k_ = (.slice Ao13 t188.length co13 : Value).ownBlock) ?hr (by rfl) ?hp (fun _ _ _ hi_ hj_ => hi_.1.trans hj_.1.symm) (fun _ _ _ => trivial) trivial ?aB ?aS (by simp) ?_; (case hd => rfl); (case hg => rfl); (case hr => first | (go_simp; done) | (go_simp; rfl)); (case hp => (intro j_ x_ hj_; rcases j_ with _ | j_; (obtain rfl : t188 = x_ := (by simpa using hj_)); (exact Kd.M_row (Kd.R_mono (Kd.R_tight rfl (HO190.out)) (fun _ h_ => ⟨rfl, h_⟩))); (simp at hj_))); (case aB => exact (bW HB)); (case aS => exact (below_size (bW HB))); intro v192 w12 ho hb hg_ hnew_; rw [← Ny191.out] at ho; have HO193 := Aside0.mk (ho); replace HB := Aside0.mk (hb); clear HO_4 HO190; clear ho hb hg_ hnew_))
     (try simp only [Act.put, List.setIfInBounds_toArray, List.set_cons_zero, List.set_cons_succ])
     go_loopg [6, 24] kj2 (fun kq v6 v24 w' => ∃ (x6_2 : List (List (S26))) (x24_2 : Int), v24 = .int .i64 x24_2 ∧ Aside0 (impl_versions.l0 kq x6_2 l1 (l1.length : Int) x24_2 = some (r1, r2)) ∧ Aside0 (kq ≤ kj2) ∧ Aside0 (Kd.S (Kd.slice 26 k26) 39 w' w.heap.size (fun _ => True) v6 x6_2) ∧ Aside0 (Below w.heap.size w w'))
     case atStart => exact ⟨(y191), (0), rB, H', ⟨Nat.le_refl _⟩, ⟨by (with_reducible repeat (first | apply Kd.S_alloc | apply Kd.S_drewN | apply Kd.S_drew)); exact HO193.out⟩, (aB HB)⟩
     case round =>
      clear H'
      try clear c1
      try clear c10
      obtain ⟨x6_2, x24_2, rfl, HA, HK2, HO_6, HB⟩ := hrel
      cases gk with
      | zero => exact absurd HA.out (by simp [impl_versions.l0])
      | succ k2 =>
       have H := HA.out
       clear HA
       simp only [impl_versions.l0] at H
       replace H := ifD H
       rcases H with ⟨H, -, c14b0⟩ | ⟨H, -, c14b0⟩
       ·by_cases c15 : 0 ≤ x24_2
        ·rw [if_pos c15] at H
         have c15b0 : decide (0 ≤ x24_2) = true := decide_eq_true c15
         clear c15
         by_cases c16 : x24_2 < (l1.length : Int)
         ·rw [if_pos c16] at H
          have c16b0 : decide (x24_2 < (l1.length : Int)) = true := decide_eq_true c16
          clear c16
          by_cases c17 : x24_2 < (x6_2.length : Int)
          ·rw [if_pos c17] at H
           have c17b0 : decide (x24_2 < (x6_2.length : Int)) = true := decide_eq_true c17
           clear c17
           replace H := Option.bind_eq_some_iff.mp H
           obtain ⟨⟨t197, t200⟩, A180, H⟩ := H
           replace H : (if t200 = true then (if x6_2.length < 5864062014805 then (impl_versions.l0 k2 (x6_2 ++ [t197]) l1 (l1.length : Int) (wrap64 (x24_2 + 1))) else (none)) else (some (([] : List (List (S26))), false))) = some (r1, r2) := H
           have A18 := Aside0.mk A180
           clear A180
           rcases Bool.eq_false_or_eq_true t200 with rfl | rfl
           ·replace H := iT rfl H
            by_cases c20 : x6_2.length < 5864062014805
            ·rw [if_pos c20] at H
             have LMc20 := Aside0.mk c20
             clear c20
             obtain ⟨y201, hy201⟩ : ∃ y_ : List (List (S26)), y_ = (x6_2 ++ [t197]) := ⟨_, rfl⟩
             replace H : (impl_versions.l0 k2 y201 l1 (l1.length : Int) (wrap64 (x24_2 + 1))) = some (r1, r2) := by first | (rw [hy201]; with_reducible exact H) | (have H2_ := (Option.bind_some _ _).symm.trans H; rw [hy201]; with_reducible exact H2_) | (have H2_ := (Option.bind_some _ _).symm.trans H; with_reducible exact H2_) | with_reducible exact H | (rw [hy201]; exact H) | exact H
             have Ny201 := Aside0.mk hy201
             clear hy201
             have H' := Aside0.mk H
             clear H
             have p194 : 0 ≤ (x24_2 : Int) := of_decide_eq_true asmB
             have q194 : x24_2 < (l1.length : Int) := of_decide_eq_true asmB
             obtain ⟨ad194, e194, hx194_0, hx194_1, hx194_2, hx194_3, hx194_4, hx194_5, hx194_6, hx194_7, hx194_8, hx194_9, hx194_10, hx194_11⟩ := at_T28 HR1.out x24_2 p194 q194
             cases e194
             replace hx194_0 := bx HB.out hx194_0
             replace hx194_1 := bx HB.out hx194_1
             replace hx194_2 := bx HB.out hx194_2
             replace hx194_3 := bx HB.out hx194_3
             replace hx194_4 := bx HB.out hx194_4
             replace hx194_5 := bx HB.out hx194_5
             replace hx194_6 := bx HB.out hx194_6
             replace hx194_7 := bx HB.out hx194_7
             replace hx194_8 := bx HB.out hx194_8
             replace hx194_9 := bx HB.out hx194_9
             replace hx194_10 := bx HB.out hx194_10
             replace hx194_11 := bx HB.out hx194_11
             replace p194 := eq_true p194
             replace q194 := eq_true q194
             try go_wp2_with (first | ((with_reducible refine gD 8 ?_); (try (refine gate_guard (by rfl) ?_; dsimp only)); refine bxE 8 28 #[.int .i64 0, .int .i64 0, .int .i64 0, .int .i64 0, .int .i64 0, .int .i64 0, .int .i64 0, .int .i64 0, .int .i64 0, .int .i64 0, .int .i64 0, .int .i64 0] fun gb195 w21 hg hbox hb => ?_; have BK195 := Aside0.mk hbox; have GE195 := gB HB hg; replace HO_6 := Aside0.mk (Kd.S_below (by (with_reducible repeat (first | apply Kd.S_alloc | apply Kd.S_drewN | apply Kd.S_drew)); exact HO_6.out) hb); replace HB := uB HB hb; clear hb hbox hg; have ⟨hcz22_0, hcz22_1, hcz22_2, hcz22_3, hcz22_4, hcz22_5, hcz22_6, hcz22_7, hcz22_8, hcz22_9, hcz22_10, hcz22_11, hfz22_0⟩ := cz12 BK195))
             have n0_ : Aside0 (Kd.S (Kd.slice 26 k26) 39 ((((((((((((w21.setCell ⟨gb195, 0, none⟩ (.int .i64 ((rd_T28 l1 x24_2).f0))).setCell ⟨gb195, 1, none⟩ (.int .i64 ((rd_T28 l1 x24_2).f1))).setCell ⟨gb195, 2, none⟩ (.int .i64 ((rd_T28 l1 x24_2).f2.f0))).setCell ⟨gb195, 3, none⟩ (.int .i64 ((rd_T28 l1 x24_2).f2.f1))).setCell ⟨gb195, 4, none⟩ (.int .i64 ((rd_T28 l1 x24_2).f2.f2))).setCell ⟨gb195, 5, none⟩ (.int .i64 ((rd_T28 l1 x24_2).f2.f3))).setCell ⟨gb195, 6, none⟩ (.int .i64 ((rd_T28 l1 x24_2).f2.f4))).setCell ⟨gb195, 7, none⟩ (.int .i64 ((rd_T28 l1 x24_2).f3.f0))).setCell ⟨gb195, 8, none⟩ (.int .i64 ((rd_T28 l1 x24_2).f3.f1))).setCell ⟨gb195, 9, none⟩ (.int .i64 ((rd_T28 l1 x24_2).f3.f2))).setCell ⟨gb195, 10, none⟩ (.int .i64 ((rd_T28 l1 x24_2).f3.f3))).setCell ⟨gb195, 11, none⟩ (.int .i64 ((rd_T28 l1 x24_2).f3.f4))) w.heap.size (fun _ => True) u6 x6_2) := ⟨by (with_reducible repeat (first | apply Kd.S_alloc | apply Kd.S_drewN | apply Kd.S_drew)); exact Kd.S_mono (Kd.S_far (p := ⟨gb195, 11, none⟩) (Kd.S_far (p := ⟨gb195, 10, none⟩) (Kd.S_far (p := ⟨gb195, 9, none⟩) (Kd.S_far (p := ⟨gb195, 8, none⟩) (Kd.S_far (p := ⟨gb195, 7, none⟩) (Kd.S_far (p := ⟨gb195, 6, none⟩) (Kd.S_far (p := ⟨gb195, 5, none⟩) (Kd.S_far (p := ⟨gb195, 4, none⟩) (Kd.S_far (p := ⟨gb195, 3, none⟩) (Kd.S_far (p := ⟨gb195, 2, none⟩) (Kd.S_far (p := ⟨gb195, 1, none⟩) (Kd.S_far (p := ⟨gb195, 0, none⟩) (Kd.S_types HO_6.out BK195.out (by decide)) (fun _ hk => hk.2) (.int .i64 ((rd_T28 l1 x24_2).f0))) (fun _ hk => hk.2) (.int .i64 ((rd_T28 l1 x24_2).f1))) (fun _ hk => hk.2) (.int .i64 ((rd_T28 l1 x24_2).f2.f0))) (fun _ hk => hk.2) (.int .i64 ((rd_T28 l1 x24_2).f2.f1))) (fun _ hk => hk.2) (.int .i64 ((rd_T28 l1 x24_2).f2.f2))) (fun _ hk => hk.2) (.int .i64 ((rd_T28 l1 x24_2).f2.f3))) (fun _ hk => hk.2) (.int .i64 ((rd_T28 l1 x24_2).f2.f4))) (fun _ hk => hk.2) (.int .i64 ((rd_T28 l1 x24_2).f3.f0))) (fun _ hk => hk.2) (.int .i64 ((rd_T28 l1 x24_2).f3.f1))) (fun _ hk => hk.2) (.int .i64 ((rd_T28 l1 x24_2).f3.f2))) (fun _ hk => hk.2) (.int .i64 ((rd_T28 l1 x24_2).f3.f3))) (fun _ hk => hk.2) (.int .i64 ((rd_T28 l1 x24_2).f3.f4))) (fun _ hk => trivial)⟩
             have n1_ : Aside0 (((((((((((((w21.setCell ⟨gb195, 0, none⟩ (.int .i64 ((rd_T28 l1 x24_2).f0))).setCell ⟨gb195, 1, none⟩ (.int .i64 ((rd_T28 l1 x24_2).f1))).setCell ⟨gb195, 2, none⟩ (.int .i64 ((rd_T28 l1 x24_2).f2.f0))).setCell ⟨gb195, 3, none⟩ (.int .i64 ((rd_T28 l1 x24_2).f2.f1))).setCell ⟨gb195, 4, none⟩ (.int .i64 ((rd_T28 l1 x24_2).f2.f2))).setCell ⟨gb195, 5, none⟩ (.int .i64 ((rd_T28 l1 x24_2).f2.f3))).setCell ⟨gb195, 6, none⟩ (.int .i64 ((rd_T28 l1 x24_2).f2.f4))).setCell ⟨gb195, 7, none⟩ (.int .i64 ((rd_T28 l1 x24_2).f3.f0))).setCell ⟨gb195, 8, none⟩ (.int .i64 ((rd_T28 l1 x24_2).f3.f1))).setCell ⟨gb195, 9, none⟩ (.int .i64 ((rd_T28 l1 x24_2).f3.f2))).setCell ⟨gb195, 10, none⟩ (.int .i64 ((rd_T28 l1 x24_2).f3.f3))).setCell ⟨gb195, 11, none⟩ (.int .i64 ((rd_T28 l1 x24_2).f3.f4))).heap[gb195]? = some (.cells #[.int .i64 ((rd_T28 l1 x24_2).f0), .int .i64 ((rd_T28 l1 x24_2).f1), .int .i64 ((rd_T28 l1 x24_2).f2.f0), .int .i64 ((rd_T28 l1 x24_2).f2.f1), .int .i64 ((rd_T28 l1 x24_2).f2.f2), .int .i64 ((rd_T28 l1 x24_2).f2.f3), .int .i64 ((rd_T28 l1 x24_2).f2.f4), .int .i64 ((rd_T28 l1 x24_2).f3.f0), .int .i64 ((rd_T28 l1 x24_2).f3.f1), .int .i64 ((rd_T28 l1 x24_2).f3.f2), .int .i64 ((rd_T28 l1 x24_2).f3.f3), .int .i64 ((rd_T28 l1 x24_2).f3.f4)] 28 (0, 0))) := ⟨by exact pW BK195⟩
             have n2_ : Aside0 (Below w.heap.size w ((((((((((((w21.setCell ⟨gb195, 0, none⟩ (.int .i64 ((rd_T28 l1 x24_2).f0))).setCell ⟨gb195, 1, none⟩ (.int .i64 ((rd_T28 l1 x24_2).f1))).setCell ⟨gb195, 2, none⟩ (.int .i64 ((rd_T28 l1 x24_2).f2.f0))).setCell ⟨gb195, 3, none⟩ (.int .i64 ((rd_T28 l1 x24_2).f2.f1))).setCell ⟨gb195, 4, none⟩ (.int .i64 ((rd_T28 l1 x24_2).f2.f2))).setCell ⟨gb195, 5, none⟩ (.int .i64 ((rd_T28 l1 x24_2).f2.f3))).setCell ⟨gb195, 6, none⟩ (.int .i64 ((rd_T28 l1 x24_2).f2.f4))).setCell ⟨gb195, 7, none⟩ (.int .i64 ((rd_T28 l1 x24_2).f3.f0))).setCell ⟨gb195, 8, none⟩ (.int .i64 ((rd_T28 l1 x24_2).f3.f1))).setCell ⟨gb195, 9, none⟩ (.int .i64 ((rd_T28 l1 x24_2).f3.f2))).setCell ⟨gb195, 10, none⟩ (.int .i64 ((rd_T28 l1 x24_2).f3.f3))).setCell ⟨gb195, 11, none⟩ (.int .i64 ((rd_T28 l1 x24_2).f3.f4)))) := (aB HB)
             (try clear HO_6)
             (try clear BK195)
             (try clear HB)
             generalize ((((((((((((w21.setCell ⟨gb195, 0, none⟩ (.int .i64 ((rd_T28 l1 x24_2).f0))).setCell ⟨gb195, 1, none⟩ (.int .i64 ((rd_T28 l1 x24_2).f1))).setCell ⟨gb195, 2, none⟩ (.int .i64 ((rd_T28 l1 x24_2).f2.f0))).setCell ⟨gb195, 3, none⟩ (.int .i64 ((rd_T28 l1 x24_2).f2.f1))).setCell ⟨gb195, 4, none⟩ (.int .i64 ((rd_T28 l1 x24_2).f2.f2))).setCell ⟨gb195, 5, none⟩ (.int .i64 ((rd_T28 l1 x24_2).f2.f3))).setCell ⟨gb195, 6, none⟩ (.int .i64 ((rd_T28 l1 x24_2).f2.f4))).setCell ⟨gb195, 7, none⟩ (.int .i64 ((rd_T28 l1 x24_2).f3.f0))).setCell ⟨gb195, 8, none⟩ (.int .i64 ((rd_T28 l1 x24_2).f3.f1))).setCell ⟨gb195, 9, none⟩ (.int .i64 ((rd_T28 l1 x24_2).f3.f2))).setCell ⟨gb195, 10, none⟩ (.int .i64 ((rd_T28 l1 x24_2).f3.f3))).setCell ⟨gb195, 11, none⟩ (.int .i64 ((rd_T28 l1 x24_2).f3.f4))) = w23 at n0_ n1_ n2_ ⊢
             have HO_6 := n0_
             have BK195 := n1_
             have HB := n2_
             clear n0_ n1_ n2_
             replace HO_6 := Aside0.mk (Kd.S_drew HO_6.out)
             replace BK195 := dK BK195
             replace HB := Aside0.mk (below_drew1 HB.out)
             obtain ⟨Ao25, co25, eo25⟩ := Kd.S_slice HO_6.out
             (first | subst eo25 | (injection eo25 with f1_ f2_ f3_; have f4_ := f1_.symm; have f5_ := f3_.symm; clear f1_ f2_ f3_; subst f4_; subst f5_))
             have p196 : 0 ≤ (x24_2 : Int) := of_decide_eq_true asmB
             have q196 : x24_2 < (x6_2.length : Int) := of_decide_eq_true asmB
             obtain ⟨ad196, A196_0, c196_0, e196, hx196_0, hl196_0, hi196_0⟩ := at_L3 (Kd.S_reads' HO_6.out).2.2 x24_2 p196 q196
             cases e196
             obtain ⟨ce196, hce196, hMe196, hcc196⟩ := Kd.S_get HO_6.out [] x24_2 p196 (by first | exact q196 | exact of_decide_eq_true asmB | (have e_ := (Kd.S_reads' HO_6.out).1; omega))
             obtain ⟨ve196_0, rfl, ge196_0⟩ := hMe196
             have hv196_0 := hcc196 0 _ rfl
             rw [Nat.add_zero, show ((Kd.slice 26 k26)).sz = 1 from rfl, Nat.mul_one] at hv196_0
             replace hv196_0 := Option.some.inj (hv196_0.symm.trans hx196_0)
             rw [hv196_0] at ge196_0
             have HL196_0 := Aside0.mk (show Kd.R k26 26 _ _ _ _ (rd_L3 x6_2 x24_2) from ge196_0)
             clear hv196_0 ge196_0
             clear hcc196 hce196
             have HR196_0 := Aside0.mk hi196_0
             have HC196_0 := Aside0.mk hl196_0
             clear hi196_0 hl196_0
             replace p196 := eq_true p196
             replace q196 := eq_true q196
             refine sA (n := 11) (S := fun w' => w'.cell? ⟨gb195, 0, none⟩ = some (.int .i64 ((rd_T28 l1 x24_2).f0)) ∧ w'.cell? ⟨gb195, 1, none⟩ = some (.int .i64 ((rd_T28 l1 x24_2).f1)) ∧ w'.cell? ⟨gb195, 2, none⟩ = some (.int .i64 ((rd_T28 l1 x24_2).f2.f0)) ∧ w'.cell? ⟨gb195, 3, none⟩ = some (.int .i64 ((rd_T28 l1 x24_2).f2.f1)) ∧ w'.cell? ⟨gb195, 4, none⟩ = some (.int .i64 ((rd_T28 l1 x24_2).f2.f2)) ∧ w'.cell? ⟨gb195, 5, none⟩ = some (.int .i64 ((rd_T28 l1 x24_2).f2.f3)) ∧ w'.cell? ⟨gb195, 6, none⟩ = some (.int .i64 ((rd_T28 l1 x24_2).f2.f4)) ∧ w'.cell? ⟨gb195, 7, none⟩ = some (.int .i64 ((rd_T28 l1 x24_2).f3.f0)) ∧ w'.cell? ⟨gb195, 8, none⟩ = some (.int .i64 ((rd_T28 l1 x24_2).f3.f1)) ∧ w'.cell? ⟨gb195, 9, none⟩ = some (.int .i64 ((rd_T28 l1 x24_2).f3.f2)) ∧ w'.cell? ⟨gb195, 10, none⟩ = some (.int .i64 ((rd_T28 l1 x24_2).f3.f3)) ∧ w'.cell? ⟨gb195, 11, none⟩ = some (.int .i64 ((rd_T28 l1 x24_2).f3.f4)) ∧ w'.cell? (ad196.add (x24_2).toNat) = some (.slice A196_0 (rd_L3 x6_2 x24_2).length c196_0)) (ds := []) impl_versions.tab7 impl_versions.bits7 #[false, false, false, false, false, false, false, false, false, false, false] ⟨cb BK195 0, cb BK195 1, cb BK195 2, cb BK195 3, cb BK195 4, cb BK195 5, cb BK195 6, cb BK195 7, cb BK195 8, cb BK195 9, cb BK195 10, cb BK195 11, hx196_0⟩ fun hHeld HT_ HW_ => ?_
             generalize w23.drew = w24 at HO_6 BK195 HB HL196_0 HR196_0 hx196_0 hHeld ⊢
             refine pA 0 30 HT_ ?_
             refine pA 1 31 HT_ ?_
             refine pA 2 32 HT_ ?_
             refine tA 3 33 HT_ HW_ hHeld ?_
             refine tA 4 34 HT_ HW_ hHeld ?_
             refine oA 5 (some 35) HT_ fun K hK => ?_
             refine goes_ Try.func67 (by kernel_rfl) rfl #[.slice A196_0 (rd_L3 x6_2 x24_2).length c196_0, .agg #[.int .i64 ((rd_T28 l1 x24_2).f0), .int .i64 ((rd_T28 l1 x24_2).f1), .int .i64 ((rd_T28 l1 x24_2).f2.f0), .int .i64 ((rd_T28 l1 x24_2).f2.f1), .int .i64 ((rd_T28 l1 x24_2).f2.f2), .int .i64 ((rd_T28 l1 x24_2).f2.f3), .int .i64 ((rd_T28 l1 x24_2).f2.f4), .int .i64 ((rd_T28 l1 x24_2).f3.f0), .int .i64 ((rd_T28 l1 x24_2).f3.f1), .int .i64 ((rd_T28 l1 x24_2).f3.f2), .int .i64 ((rd_T28 l1 x24_2).f3.f3), .int .i64 ((rd_T28 l1 x24_2).f3.f4)]] (by rfl) rfl rfl argsB ?_
             with_reducible refine (impl_apply.calls k2 _ _ (rd_L3 x6_2 x24_2) ((rd_T28 l1 x24_2).f0) ((rd_T28 l1 x24_2).f1) ((rd_T28 l1 x24_2).f2.f0) ((rd_T28 l1 x24_2).f2.f1) ((rd_T28 l1 x24_2).f2.f2) ((rd_T28 l1 x24_2).f2.f3) ((rd_T28 l1 x24_2).f2.f4) ((rd_T28 l1 x24_2).f3.f0) ((rd_T28 l1 x24_2).f3.f1) ((rd_T28 l1 x24_2).f3.f2) ((rd_T28 l1 x24_2).f3.f3) ((rd_T28 l1 x24_2).f3.f4) t197 true _ ?side1 ?side2 A18.out).mono ?_
             (case side1 => repeat (first | exact (by repeat (first | (with_reducible exact HR196_0.out) | (with_reducible refine Kd.C_alloc ?_ _) | (with_reducible refine Kd.C_drewN ?_ _) | (with_reducible refine Kd.C_drew ?_) | exact HR196_0.out)) | (with_reducible refine Kd.C_alloc ?_ _) | (with_reducible refine Kd.C_drewN ?_ _) | (with_reducible refine Kd.C_drew ?_)))
             (case side2 => exact HC196_0.out)
             rintro e w26 ⟨v198, rfl, ho0, hb⟩
             have HS12_ := (hb.cell (World.block_lt_of_cell? _ _ (hHeld.2.2.2.2.2.2.2.2.2.2.2.2))).trans (hHeld.2.2.2.2.2.2.2.2.2.2.2.2)
             refine ⟨_, rfl, ?_⟩
             have HO199 := Aside0.mk (Kd.R_lower (Kd.R_new' ho0 (Kd.R_lt (upR HL196_0.out))) (below_size (bW HB)))
             replace HO_6 := Aside0.mk (Kd.S_elder' (by (with_reducible repeat (first | apply Kd.S_alloc | apply Kd.S_drewN | apply Kd.S_drew)); exact HO_6.out) (Kd.R_base ho0) hb)
             replace HL196_0 := Aside0.mk (Kd.R_elder' (upR HL196_0.out) (Kd.R_base ho0) hb)
             replace BK195 := uK BK195 hb
             replace HR196_0 := Aside0.mk (Kd.C_below (by repeat (first | (with_reducible exact HR196_0.out) | (with_reducible refine Kd.C_alloc ?_ _) | (with_reducible refine Kd.C_drewN ?_ _) | (with_reducible refine Kd.C_drew ?_) | exact HR196_0.out)) hb)
             replace HB := uB HB hb
             (try clear hb)
             (try clear hk)
             (try clear ho0)
             refine hK.out _ _ ⟨cb BK195 0, cb BK195 1, cb BK195 2, cb BK195 3, cb BK195 4, cb BK195 5, cb BK195 6, cb BK195 7, cb BK195 8, cb BK195 9, cb BK195 10, cb BK195 11, HS12_⟩ (fun hHeld => ?_)
             clear hK K
             refine nA ?_ (some 35)
             refine pA 6 29 HT_ ?_
             refine pA 7 36 HT_ ?_
             refine pA 8 37 HT_ ?_
             refine pA 9 9 HT_ ?_
             refine pA 10 10 HT_ ?_
             refine done_ (done_of HT_.out (by kernel_rfl)) ?_
             obtain ⟨Ao28, co28, eo28⟩ := Kd.R_slice HO199.out
             subst eo28
             try go_wp2_with (first | ((with_reducible refine gate_builtin (b := .append) (xs := #[.tmp 40, .tmp 42]) rfl ?_); (try (refine gate_guard (by rfl) ?_; dsimp only)); at_builtin; refine Kd.S_append (Kd.slice 26 k26) (w0 := w) w.heap.size rfl (.tmp 40) (.tmp 42) 84 39 (.slice none 0 0) 24 rfl Try.underlying84 info39 rfl (by decide) (by omega) (.slice (some ad196) x6_2.length co25) x6_2 t197 [.slice Ao28 t197.length co28] (fun _ => True) (fun k_ => some k_ = (.slice Ao28 t197.length co28 : Value).ownBlock) rfl rfl ?aP (fun k_ hk_ => ((Kd.R_mono (ok' := fun k_ => ((fun _ => True)) k_ ∧ some k_ ≠ (.slice (some ad196) x6_2.length co25 : Value).ownBlock) (Kd.R_apart' (HO199.out) (Kd.S_typed HO_6.out) (by decide)) (fun k_ hk => ⟨trivial, hk.2⟩))).1 k_ hk_.symm) ?aF ?aO ?aB ?aS ?aL ?_; (case aP => exact Kd.M_row (Kd.R_mono (Kd.R_tight rfl (Kd.R_mono (ok' := fun k_ => ((fun _ => True)) k_ ∧ some k_ ≠ (.slice (some ad196) x6_2.length co25 : Value).ownBlock) (Kd.R_apart' (HO199.out) (Kd.S_typed HO_6.out) (by decide)) (fun k_ hk => ⟨trivial, hk.2⟩))) (fun _ h_ => h_))); (case aB => exact (bW HB)); (case aF => exact (fun _ _ => trivial)); (case aO => exact (by (with_reducible repeat (first | apply Kd.S_alloc | apply Kd.S_drewN | apply Kd.S_drew)); exact Kd.S_mono HO_6.out (fun k_ hk => ⟨trivial, fun e_ => hk.2 e_⟩))); (case aS => exact (below_size (bW HB))); (case aL => have := LMc20.out; omega); intro v202 w27 ho hb hg hat; rw [← Ny201.out] at ho; have HO203 := Aside0.mk (ho); replace BK195 := Aside0.mk (blk_grown (g := gb195) (o := .cells #[.int .i64 ((rd_T28 l1 x24_2).f0), .int .i64 ((rd_T28 l1 x24_2).f1), .int .i64 ((rd_T28 l1 x24_2).f2.f0), .int .i64 ((rd_T28 l1 x24_2).f2.f1), .int .i64 ((rd_T28 l1 x24_2).f2.f2), .int .i64 ((rd_T28 l1 x24_2).f2.f3), .int .i64 ((rd_T28 l1 x24_2).f2.f4), .int .i64 ((rd_T28 l1 x24_2).f3.f0), .int .i64 ((rd_T28 l1 x24_2).f3.f1), .int .i64 ((rd_T28 l1 x24_2).f3.f2), .int .i64 ((rd_T28 l1 x24_2).f3.f3), .int .i64 ((rd_T28 l1 x24_2).f3.f4)] 28 (0, 0)) (upK BK195.out) hg (Kd.S_ne HO_6.out BK195.out (by decide))); replace HL196_0 := Aside0.mk (Kd.R_after (ok := (fun k_ => some k_ ≠ (.slice Ao28 t197.length co28 : Value).ownBlock)) (by (with_reducible repeat (first | apply Kd.R_alloc | apply Kd.R_drewN | apply Kd.R_drew)); exact Kd.R_mono HL196_0.out (fun _ hk => ⟨hk.2, hk.1.2⟩)) hg hat); replace HB := Aside0.mk (hb); clear HO_6 HO199; clear ho hb hg hat))
             go_roundg k2
             case measure => have := HJ2.out; have := HK2.out; omega
             case rel => exact ⟨(y201), (wrap64 (x24_2 + 1)), rB, H', ⟨by have := HJ2.out; have := HK2.out; omega⟩, ⟨by (with_reducible repeat (first | apply Kd.S_alloc | apply Kd.S_drewN | apply Kd.S_drew)); exact HO203.out⟩, (aB HB)⟩
            ·rw [if_neg c20] at H
             exact absurd H (by simp)
           ·replace H := iF (by decide) H
            simp only [Option.some.injEq, Prod.mk.injEq] at H
            obtain ⟨rfl, rfl⟩ := H
            have p194 : 0 ≤ (x24_2 : Int) := of_decide_eq_true asmB
            have q194 : x24_2 < (l1.length : Int) := of_decide_eq_true asmB
            obtain ⟨ad194, e194, hx194_0, hx194_1, hx194_2, hx194_3, hx194_4, hx194_5, hx194_6, hx194_7, hx194_8, hx194_9, hx194_10, hx194_11⟩ := at_T28 HR1.out x24_2 p194 q194
            cases e194
            replace hx194_0 := bx HB.out hx194_0
            replace hx194_1 := bx HB.out hx194_1
            replace hx194_2 := bx HB.out hx194_2
            replace hx194_3 := bx HB.out hx194_3
            replace hx194_4 := bx HB.out hx194_4
            replace hx194_5 := bx HB.out hx194_5
            replace hx194_6 := bx HB.out hx194_6
            replace hx194_7 := bx HB.out hx194_7
            replace hx194_8 := bx HB.out hx194_8
            replace hx194_9 := bx HB.out hx194_9
            replace hx194_10 := bx HB.out hx194_10
            replace hx194_11 := bx HB.out hx194_11
            replace p194 := eq_true p194
            replace q194 := eq_true q194
            try go_wp2_with (first | ((with_reducible refine gD 8 ?_); (try (refine gate_guard (by rfl) ?_; dsimp only)); refine bxE 8 28 #[.int .i64 0, .int .i64 0, .int .i64 0, .int .i64 0, .int .i64 0, .int .i64 0, .int .i64 0, .int .i64 0, .int .i64 0, .int .i64 0, .int .i64 0, .int .i64 0] fun gb195 w29 hg hbox hb => ?_; have BK195 := Aside0.mk hbox; have GE195 := gB HB hg; replace HO_6 := Aside0.mk (Kd.S_below (by (with_reducible repeat (first | apply Kd.S_alloc | apply Kd.S_drewN | apply Kd.S_drew)); exact HO_6.out) hb); replace HB := uB HB hb; clear hb hbox hg; have ⟨hcz30_0, hcz30_1, hcz30_2, hcz30_3, hcz30_4, hcz30_5, hcz30_6, hcz30_7, hcz30_8, hcz30_9, hcz30_10, hcz30_11, hfz30_0⟩ := cz12 BK195))
            have n0_ : Aside0 (Kd.S (Kd.slice 26 k26) 39 ((((((((((((w29.setCell ⟨gb195, 0, none⟩ (.int .i64 ((rd_T28 l1 x24_2).f0))).setCell ⟨gb195, 1, none⟩ (.int .i64 ((rd_T28 l1 x24_2).f1))).setCell ⟨gb195, 2, none⟩ (.int .i64 ((rd_T28 l1 x24_2).f2.f0))).setCell ⟨gb195, 3, none⟩ (.int .i64 ((rd_T28 l1 x24_2).f2.f1))).setCell ⟨gb195, 4, none⟩ (.int .i64 ((rd_T28 l1 x24_2).f2.f2))).setCell ⟨gb195, 5, none⟩ (.int .i64 ((rd_T28 l1 x24_2).f2.f3))).setCell ⟨gb195, 6, none⟩ (.int .i64 ((rd_T28 l1 x24_2).f2.f4))).setCell ⟨gb195, 7, none⟩ (.int .i64 ((rd_T28 l1 x24_2).f3.f0))).setCell ⟨gb195, 8, none⟩ (.int .i64 ((rd_T28 l1 x24_2).f3.f1))).setCell ⟨gb195, 9, none⟩ (.int .i64 ((rd_T28 l1 x24_2).f3.f2))).setCell ⟨gb195, 10, none⟩ (.int .i64 ((rd_T28 l1 x24_2).f3.f3))).setCell ⟨gb195, 11, none⟩ (.int .i64 ((rd_T28 l1 x24_2).f3.f4))) w.heap.size (fun _ => True) u6 x6_2) := ⟨by (with_reducible repeat (first | apply Kd.S_alloc | apply Kd.S_drewN | apply Kd.S_drew)); exact Kd.S_mono (Kd.S_far (p := ⟨gb195, 11, none⟩) (Kd.S_far (p := ⟨gb195, 10, none⟩) (Kd.S_far (p := ⟨gb195, 9, none⟩) (Kd.S_far (p := ⟨gb195, 8, none⟩) (Kd.S_far (p := ⟨gb195, 7, none⟩) (Kd.S_far (p := ⟨gb195, 6, none⟩) (Kd.S_far (p := ⟨gb195, 5, none⟩) (Kd.S_far (p := ⟨gb195, 4, none⟩) (Kd.S_far (p := ⟨gb195, 3, none⟩) (Kd.S_far (p := ⟨gb195, 2, none⟩) (Kd.S_far (p := ⟨gb195, 1, none⟩) (Kd.S_far (p := ⟨gb195, 0, none⟩) (Kd.S_types HO_6.out BK195.out (by decide)) (fun _ hk => hk.2) (.int .i64 ((rd_T28 l1 x24_2).f0))) (fun _ hk => hk.2) (.int .i64 ((rd_T28 l1 x24_2).f1))) (fun _ hk => hk.2) (.int .i64 ((rd_T28 l1 x24_2).f2.f0))) (fun _ hk => hk.2) (.int .i64 ((rd_T28 l1 x24_2).f2.f1))) (fun _ hk => hk.2) (.int .i64 ((rd_T28 l1 x24_2).f2.f2))) (fun _ hk => hk.2) (.int .i64 ((rd_T28 l1 x24_2).f2.f3))) (fun _ hk => hk.2) (.int .i64 ((rd_T28 l1 x24_2).f2.f4))) (fun _ hk => hk.2) (.int .i64 ((rd_T28 l1 x24_2).f3.f0))) (fun _ hk => hk.2) (.int .i64 ((rd_T28 l1 x24_2).f3.f1))) (fun _ hk => hk.2) (.int .i64 ((rd_T28 l1 x24_2).f3.f2))) (fun _ hk => hk.2) (.int .i64 ((rd_T28 l1 x24_2).f3.f3))) (fun _ hk => hk.2) (.int .i64 ((rd_T28 l1 x24_2).f3.f4))) (fun _ hk => trivial)⟩
            have n1_ : Aside0 (((((((((((((w29.setCell ⟨gb195, 0, none⟩ (.int .i64 ((rd_T28 l1 x24_2).f0))).setCell ⟨gb195, 1, none⟩ (.int .i64 ((rd_T28 l1 x24_2).f1))).setCell ⟨gb195, 2, none⟩ (.int .i64 ((rd_T28 l1 x24_2).f2.f0))).setCell ⟨gb195, 3, none⟩ (.int .i64 ((rd_T28 l1 x24_2).f2.f1))).setCell ⟨gb195, 4, none⟩ (.int .i64 ((rd_T28 l1 x24_2).f2.f2))).setCell ⟨gb195, 5, none⟩ (.int .i64 ((rd_T28 l1 x24_2).f2.f3))).setCell ⟨gb195, 6, none⟩ (.int .i64 ((rd_T28 l1 x24_2).f2.f4))).setCell ⟨gb195, 7, none⟩ (.int .i64 ((rd_T28 l1 x24_2).f3.f0))).setCell ⟨gb195, 8, none⟩ (.int .i64 ((rd_T28 l1 x24_2).f3.f1))).setCell ⟨gb195, 9, none⟩ (.int .i64 ((rd_T28 l1 x24_2).f3.f2))).setCell ⟨gb195, 10, none⟩ (.int .i64 ((rd_T28 l1 x24_2).f3.f3))).setCell ⟨gb195, 11, none⟩ (.int .i64 ((rd_T28 l1 x24_2).f3.f4))).heap[gb195]? = some (.cells #[.int .i64 ((rd_T28 l1 x24_2).f0), .int .i64 ((rd_T28 l1 x24_2).f1), .int .i64 ((rd_T28 l1 x24_2).f2.f0), .int .i64 ((rd_T28 l1 x24_2).f2.f1), .int .i64 ((rd_T28 l1 x24_2).f2.f2), .int .i64 ((rd_T28 l1 x24_2).f2.f3), .int .i64 ((rd_T28 l1 x24_2).f2.f4), .int .i64 ((rd_T28 l1 x24_2).f3.f0), .int .i64 ((rd_T28 l1 x24_2).f3.f1), .int .i64 ((rd_T28 l1 x24_2).f3.f2), .int .i64 ((rd_T28 l1 x24_2).f3.f3), .int .i64 ((rd_T28 l1 x24_2).f3.f4)] 28 (0, 0))) := ⟨by exact pW BK195⟩
            have n2_ : Aside0 (Below w.heap.size w ((((((((((((w29.setCell ⟨gb195, 0, none⟩ (.int .i64 ((rd_T28 l1 x24_2).f0))).setCell ⟨gb195, 1, none⟩ (.int .i64 ((rd_T28 l1 x24_2).f1))).setCell ⟨gb195, 2, none⟩ (.int .i64 ((rd_T28 l1 x24_2).f2.f0))).setCell ⟨gb195, 3, none⟩ (.int .i64 ((rd_T28 l1 x24_2).f2.f1))).setCell ⟨gb195, 4, none⟩ (.int .i64 ((rd_T28 l1 x24_2).f2.f2))).setCell ⟨gb195, 5, none⟩ (.int .i64 ((rd_T28 l1 x24_2).f2.f3))).setCell ⟨gb195, 6, none⟩ (.int .i64 ((rd_T28 l1 x24_2).f2.f4))).setCell ⟨gb195, 7, none⟩ (.int .i64 ((rd_T28 l1 x24_2).f3.f0))).setCell ⟨gb195, 8, none⟩ (.int .i64 ((rd_T28 l1 x24_2).f3.f1))).setCell ⟨gb195, 9, none⟩ (.int .i64 ((rd_T28 l1 x24_2).f3.f2))).setCell ⟨gb195, 10, none⟩ (.int .i64 ((rd_T28 l1 x24_2).f3.f3))).setCell ⟨gb195, 11, none⟩ (.int .i64 ((rd_T28 l1 x24_2).f3.f4)))) := (aB HB)
            (try clear HO_6)
            (try clear BK195)
            (try clear HB)
            generalize ((((((((((((w29.setCell ⟨gb195, 0, none⟩ (.int .i64 ((rd_T28 l1 x24_2).f0))).setCell ⟨gb195, 1, none⟩ (.int .i64 ((rd_T28 l1 x24_2).f1))).setCell ⟨gb195, 2, none⟩ (.int .i64 ((rd_T28 l1 x24_2).f2.f0))).setCell ⟨gb195, 3, none⟩ (.int .i64 ((rd_T28 l1 x24_2).f2.f1))).setCell ⟨gb195, 4, none⟩ (.int .i64 ((rd_T28 l1 x24_2).f2.f2))).setCell ⟨gb195, 5, none⟩ (.int .i64 ((rd_T28 l1 x24_2).f2.f3))).setCell ⟨gb195, 6, none⟩ (.int .i64 ((rd_T28 l1 x24_2).f2.f4))).setCell ⟨gb195, 7, none⟩ (.int .i64 ((rd_T28 l1 x24_2).f3.f0))).setCell ⟨gb195, 8, none⟩ (.int .i64 ((rd_T28 l1 x24_2).f3.f1))).setCell ⟨gb195, 9, none⟩ (.int .i64 ((rd_T28 l1 x24_2).f3.f2))).setCell ⟨gb195, 10, none⟩ (.int .i64 ((rd_T28 l1 x24_2).f3.f3))).setCell ⟨gb195, 11, none⟩ (.int .i64 ((rd_T28 l1 x24_2).f3.f4))) = w31 at n0_ n1_ n2_ ⊢
            have HO_6 := n0_
            have BK195 := n1_
            have HB := n2_
            clear n0_ n1_ n2_
            replace HO_6 := Aside0.mk (Kd.S_drew HO_6.out)
            replace BK195 := dK BK195
            replace HB := Aside0.mk (below_drew1 HB.out)
            obtain ⟨Ao33, co33, eo33⟩ := Kd.S_slice HO_6.out
            (first | subst eo33 | (injection eo33 with f1_ f2_ f3_; have f4_ := f1_.symm; have f5_ := f3_.symm; clear f1_ f2_ f3_; subst f4_; subst f5_))
            have p196 : 0 ≤ (x24_2 : Int) := of_decide_eq_true asmB
            have q196 : x24_2 < (x6_2.length : Int) := of_decide_eq_true asmB
            obtain ⟨ad196, A196_0, c196_0, e196, hx196_0, hl196_0, hi196_0⟩ := at_L3 (Kd.S_reads' HO_6.out).2.2 x24_2 p196 q196
            cases e196
            obtain ⟨ce196, hce196, hMe196, hcc196⟩ := Kd.S_get HO_6.out [] x24_2 p196 (by first | exact q196 | exact of_decide_eq_true asmB | (have e_ := (Kd.S_reads' HO_6.out).1; omega))
            obtain ⟨ve196_0, rfl, ge196_0⟩ := hMe196
            have hv196_0 := hcc196 0 _ rfl
            rw [Nat.add_zero, show ((Kd.slice 26 k26)).sz = 1 from rfl, Nat.mul_one] at hv196_0
            replace hv196_0 := Option.some.inj (hv196_0.symm.trans hx196_0)
            rw [hv196_0] at ge196_0
            have HL196_0 := Aside0.mk (show Kd.R k26 26 _ _ _ _ (rd_L3 x6_2 x24_2) from ge196_0)
            clear hv196_0 ge196_0
            clear hcc196 hce196
            have HR196_0 := Aside0.mk hi196_0
            have HC196_0 := Aside0.mk hl196_0
            clear hi196_0 hl196_0
            replace p196 := eq_true p196
            replace q196 := eq_true q196
            refine sA (n := 11) (S := fun w' => w'.cell? ⟨gb195, 0, none⟩ = some (.int .i64 ((rd_T28 l1 x24_2).f0)) ∧ w'.cell? ⟨gb195, 1, none⟩ = some (.int .i64 ((rd_T28 l1 x24_2).f1)) ∧ w'.cell? ⟨gb195, 2, none⟩ = some (.int .i64 ((rd_T28 l1 x24_2).f2.f0)) ∧ w'.cell? ⟨gb195, 3, none⟩ = some (.int .i64 ((rd_T28 l1 x24_2).f2.f1)) ∧ w'.cell? ⟨gb195, 4, none⟩ = some (.int .i64 ((rd_T28 l1 x24_2).f2.f2)) ∧ w'.cell? ⟨gb195, 5, none⟩ = some (.int .i64 ((rd_T28 l1 x24_2).f2.f3)) ∧ w'.cell? ⟨gb195, 6, none⟩ = some (.int .i64 ((rd_T28 l1 x24_2).f2.f4)) ∧ w'.cell? ⟨gb195, 7, none⟩ = some (.int .i64 ((rd_T28 l1 x24_2).f3.f0)) ∧ w'.cell? ⟨gb195, 8, none⟩ = some (.int .i64 ((rd_T28 l1 x24_2).f3.f1)) ∧ w'.cell? ⟨gb195, 9, none⟩ = some (.int .i64 ((rd_T28 l1 x24_2).f3.f2)) ∧ w'.cell? ⟨gb195, 10, none⟩ = some (.int .i64 ((rd_T28 l1 x24_2).f3.f3)) ∧ w'.cell? ⟨gb195, 11, none⟩ = some (.int .i64 ((rd_T28 l1 x24_2).f3.f4)) ∧ w'.cell? (ad196.add (x24_2).toNat) = some (.slice A196_0 (rd_L3 x6_2 x24_2).length c196_0)) (ds := []) impl_versions.tab7 impl_versions.bits7 #[false, false, false, false, false, false, false, false, false, false, false] ⟨cb BK195 0, cb BK195 1, cb BK195 2, cb BK195 3, cb BK195 4, cb BK195 5, cb BK195 6, cb BK195 7, cb BK195 8, cb BK195 9, cb BK195 10, cb BK195 11, hx196_0⟩ fun hHeld HT_ HW_ => ?_
            generalize w31.drew = w32 at HO_6 BK195 HB HL196_0 HR196_0 hx196_0 hHeld ⊢
            refine pA 0 30 HT_ ?_
            refine pA 1 31 HT_ ?_
            refine pA 2 32 HT_ ?_
            refine tA 3 33 HT_ HW_ hHeld ?_
            refine tA 4 34 HT_ HW_ hHeld ?_
            refine oA 5 (some 35) HT_ fun K hK => ?_
            refine goes_ Try.func67 (by kernel_rfl) rfl #[.slice A196_0 (rd_L3 x6_2 x24_2).length c196_0, .agg #[.int .i64 ((rd_T28 l1 x24_2).f0), .int .i64 ((rd_T28 l1 x24_2).f1), .int .i64 ((rd_T28 l1 x24_2).f2.f0), .int .i64 ((rd_T28 l1 x24_2).f2.f1), .int .i64 ((rd_T28 l1 x24_2).f2.f2), .int .i64 ((rd_T28 l1 x24_2).f2.f3), .int .i64 ((rd_T28 l1 x24_2).f2.f4), .int .i64 ((rd_T28 l1 x24_2).f3.f0), .int .i64 ((rd_T28 l1 x24_2).f3.f1), .int .i64 ((rd_T28 l1 x24_2).f3.f2), .int .i64 ((rd_T28 l1 x24_2).f3.f3), .int .i64 ((rd_T28 l1 x24_2).f3.f4)]] (by rfl) rfl rfl argsB ?_
            with_reducible refine (impl_apply.calls k2 _ _ (rd_L3 x6_2 x24_2) ((rd_T28 l1 x24_2).f0) ((rd_T28 l1 x24_2).f1) ((rd_T28 l1 x24_2).f2.f0) ((rd_T28 l1 x24_2).f2.f1) ((rd_T28 l1 x24_2).f2.f2) ((rd_T28 l1 x24_2).f2.f3) ((rd_T28 l1 x24_2).f2.f4) ((rd_T28 l1 x24_2).f3.f0) ((rd_T28 l1 x24_2).f3.f1) ((rd_T28 l1 x24_2).f3.f2) ((rd_T28 l1 x24_2).f3.f3) ((rd_T28 l1 x24_2).f3.f4) t197 false _ ?side1 ?side2 A18.out).mono ?_
            (case side1 => repeat (first | exact (by repeat (first | (with_reducible exact HR196_0.out) | (with_reducible refine Kd.C_alloc ?_ _) | (with_reducible refine Kd.C_drewN ?_ _) | (with_reducible refine Kd.C_drew ?_) | exact HR196_0.out)) | (with_reducible refine Kd.C_alloc ?_ _) | (with_reducible refine Kd.C_drewN ?_ _) | (with_reducible refine Kd.C_drew ?_)))
            (case side2 => exact HC196_0.out)
            rintro e w34 ⟨v198, rfl, ho0, hb⟩
            have HS12_ := (hb.cell (World.block_lt_of_cell? _ _ (hHeld.2.2.2.2.2.2.2.2.2.2.2.2))).trans (hHeld.2.2.2.2.2.2.2.2.2.2.2.2)
            refine ⟨_, rfl, ?_⟩
            have HO199 := Aside0.mk (Kd.R_lower (Kd.R_new' ho0 (Kd.R_lt (upR HL196_0.out))) (below_size (bW HB)))
            replace HO_6 := Aside0.mk (Kd.S_elder' (by (with_reducible repeat (first | apply Kd.S_alloc | apply Kd.S_drewN | apply Kd.S_drew)); exact HO_6.out) (Kd.R_base ho0) hb)
            replace HL196_0 := Aside0.mk (Kd.R_elder' (upR HL196_0.out) (Kd.R_base ho0) hb)
            replace BK195 := uK BK195 hb
            replace HR196_0 := Aside0.mk (Kd.C_below (by repeat (first | (with_reducible exact HR196_0.out) | (with_reducible refine Kd.C_alloc ?_ _) | (with_reducible refine Kd.C_drewN ?_ _) | (with_reducible refine Kd.C_drew ?_) | exact HR196_0.out)) hb)
            replace HB := uB HB hb
            (try clear hb)
            (try clear hk)
            (try clear ho0)
            refine hK.out _ _ ⟨cb BK195 0, cb BK195 1, cb BK195 2, cb BK195 3, cb BK195 4, cb BK195 5, cb BK195 6, cb BK195 7, cb BK195 8, cb BK195 9, cb BK195 10, cb BK195 11, HS12_⟩ (fun hHeld => ?_)
            clear hK K
            refine nA ?_ (some 35)
            refine pA 6 29 HT_ ?_
            refine pA 7 36 HT_ ?_
            refine pA 8 37 HT_ ?_
            refine pA 9 9 HT_ ?_
            refine pA 10 10 HT_ ?_
            refine done_ (done_of HT_.out (by kernel_rfl)) ?_
            try go_wp2
            go_ret2
            exact ⟨_, eB, by first | exact Kd.S_nil _ _ _ _ _ | exact Kd.N_nil _ _ _ _ _ | exact Kd.V_nil _ _ _ _ _ | exact Kd.Q_nil _ _ _ _ _ | exact Kd.R_nil _ _ _ _ _, (bW HB)⟩
          ·rw [if_neg c17] at H
           exact absurd H (by simp)
         ·rw [if_neg c16] at H
          exact absurd H (by simp)
        ·rw [if_neg c15] at H
         exact absurd H (by simp)
       ·simp only [Option.some.injEq, Prod.mk.injEq] at H
        obtain ⟨rfl, rfl⟩ := H
        go_wp2
        go_ret2
        exact ⟨_, eB, by (with_reducible repeat (first | apply Kd.S_alloc | apply Kd.S_drewN | apply Kd.S_drew)); exact HO_6.out, (bW HB)⟩
    ·rw [if_neg c10] at H
     exact absurd H (by simp)

/-! ### impl_VersionAt: function 34 -/
def impl_VersionAt.f (k : Nat) (l0 : List (S26)) (l1 : List (S28)) (a2 : Int) : Option ((List (S26)) × Bool) := (impl_versions.f k l0 l1).bind fun bt204 => (if bt204.2 = true then ((impl_within.f a2 0 (l1.length : Int)).bind fun t208 => (if t208 = true then (if 0 ≤ a2 then (if a2 < (bt204.1.length : Int) then (some (rd_L3 bt204.1 a2, true)) else (none)) else (none)) else (some (([] : List (S26)), false)))) else (some (([] : List (S26)), false)))
theorem impl_VersionAt.mono : ∀ a0 a1 a2 k, LeO (impl_VersionAt.f k a0 a1 a2) (impl_VersionAt.f (k + 1) a0 a1 a2) := by
 intro a0 a1 a2 k
 unfold impl_VersionAt.f
 repeat' with_reducible first | apply impl_versions.mono | exact LeO.refl _ | exact LeO.none _ | refine LeO.ite ?_ ?_ | refine LeO.bind ?_ (fun _ => ?_)
set_option maxHeartbeats 8000000 in
set_option maxRecDepth 100000 in
theorem impl_VersionAt.calls (k : Nat) (A0 : Option Addr) (c0 : Nat) (l0 : List (S26)) (A1 : Option Addr) (c1 : Nat) (l1 : List (S28)) (a2 : Int) (r1 : List (S26)) (r2 : Bool) (w : World) (hr0 : Kd.C k26 w A0 l0.length l0) (hc0 : l0.length ≤ c0) (hr1 : Kd.C k28 w A1 l1.length l1) (hc1 : l1.length ≤ c1) (h : impl_VersionAt.f k l0 l1 a2 = some (r1, r2)) :
  Calls Try.prog 34 #[.slice A0 l0.length c0, .slice A1 l1.length c1, .int .i64 a2] w fun e w' => ∃ v0_ : Value, e = .returned (.tuple #[v0_, .bool r2]) ∧ Kd.R k26 26 w' w.heap.size (fun _ => True) v0_ r1 ∧ Below w.heap.size w w' := by
 have HR0 := Aside0.mk hr0
 have HC0 := Aside0.mk hc0
 clear hr0 hc0
 have HR1 := Aside0.mk hr1
 have HC1 := Aside0.mk hc1
 clear hr1 hc1
 have HB := Aside0.mk (Below.refl w.heap.size w)
 have H := h
 clear h
 unfold impl_VersionAt.f at H
 replace H := Option.bind_eq_some_iff.mp H
 obtain ⟨⟨t204, t205⟩, A40, H⟩ := H
 replace H : (if t205 = true then ((impl_within.f a2 0 (l1.length : Int)).bind fun t208 => (if t208 = true then (if 0 ≤ a2 then (if a2 < (t204.length : Int) then (some (rd_L3 t204 a2, true)) else (none)) else (none)) else (some (([] : List (S26)), false)))) else (some (([] : List (S26)), false))) = some (r1, r2) := H
 have A4 := Aside0.mk A40
 clear A40
 rcases Bool.eq_false_or_eq_true t205 with rfl | rfl
 ·replace H := iT rfl H
  replace H := bA H
  obtain ⟨t208, A6, H⟩ := H
  rcases Bool.eq_false_or_eq_true t208 with rfl | rfl
  ·replace H := iT rfl H
   by_cases c8 : 0 ≤ a2
   ·rw [if_pos c8] at H
    have c8b0 : decide (0 ≤ a2) = true := decide_eq_true c8
    clear c8
    by_cases c9 : a2 < (t204.length : Int)
    ·rw [if_pos c9] at H
     have c9b0 : decide (a2 < (t204.length : Int)) = true := decide_eq_true c9
     clear c9
     simp only [Option.some.injEq, Prod.mk.injEq] at H
     obtain ⟨rfl, rfl⟩ := H
     go_enter Try.func34, Try.ntmps34
     go_wp2_with (first | ((with_reducible refine gate_callee (f := 69) rfl ?_); refine goesL_ (some 13) rfl rfl Try.func69 (by kernel_rfl) rfl #[.slice A0 l0.length c0, .slice A1 l1.length c1] rfl argsB ?_; (with_reducible refine (impl_versions.calls k _ _ l0 _ _ l1 t204 true _ ?side1 ?side2 ?side3 ?side4 A4.out).mono ?_); (case side1 => repeat (first | exact HR0.out | (with_reducible refine Kd.C_alloc ?_ _) | (with_reducible refine Kd.C_drewN ?_ _) | (with_reducible refine Kd.C_drew ?_))); (case side2 => exact HC0.out); (case side3 => repeat (first | exact HR1.out | (with_reducible refine Kd.C_alloc ?_ _) | (with_reducible refine Kd.C_drewN ?_ _) | (with_reducible refine Kd.C_drew ?_))); (case side4 => exact HC1.out); rintro e w10 ⟨v206, rfl, ho0, hb⟩; refine ⟨_, rfl, ?_⟩; have HO207 := Aside0.mk (Kd.S_lower ho0 (below_size (bW HB))); replace HB := uB HB hb; (try clear hb); (try clear hk); (try clear ho0)) | (go_at_call 72; (with_reducible refine (impl_within.calls a2 0 (l1.length : Int) true _ A6.out).mono ?_); rintro e w' ⟨rfl, ⟨nd, rfl⟩⟩; obtain ⟨Ao11, co11, eo11⟩ := Kd.S_slice HO207.out; subst eo11; have p209 : 0 ≤ (a2 : Int) := of_decide_eq_true asmB; have q209 : a2 < (t204.length : Int) := of_decide_eq_true asmB; obtain ⟨ad209, A209_0, c209_0, e209, hx209_0, hl209_0, hi209_0⟩ := at_L3 (Kd.S_reads' HO207.out).2.2 a2 p209 q209; cases e209; obtain ⟨ce209, hce209, hMe209, hcc209⟩ := Kd.S_get HO207.out [] a2 p209 (by first | exact q209 | exact of_decide_eq_true asmB | (have e_ := (Kd.S_reads' HO207.out).1; omega)); obtain ⟨ve209_0, rfl, ge209_0⟩ := hMe209; have hv209_0 := hcc209 0 _ rfl; rw [Nat.add_zero, show ((Kd.slice 26 k26)).sz = 1 from rfl, Nat.mul_one] at hv209_0; replace hv209_0 := Option.some.inj (hv209_0.symm.trans hx209_0); rw [hv209_0] at ge209_0; have HL209_0 := Aside0.mk (show Kd.R k26 26 _ _ _ _ (rd_L3 t204 a2) from ge209_0); clear hv209_0 ge209_0; clear hcc209 hce209; have HR209_0 := Aside0.mk hi209_0; have HC209_0 := Aside0.mk hl209_0; clear hi209_0 hl209_0; replace p209 := eq_true p209; replace q209 := eq_true q209))
     go_ret2
     exact ⟨_, eB, by (with_reducible repeat (first | apply Kd.R_alloc | apply Kd.R_drewN | apply Kd.R_drew)); exact Kd.R_mono HL209_0.out (fun _ hk => trivial), (bW HB)⟩
    ·rw [if_neg c9] at H
     exact absurd H (by simp)
   ·rw [if_neg c8] at H
    exact absurd H (by simp)
  ·replace H := iF (by decide) H
   simp only [Option.some.injEq, Prod.mk.injEq] at H
   obtain ⟨rfl, rfl⟩ := H
   go_enter Try.func34, Try.ntmps34
   go_wp2_with (first | ((with_reducible refine gate_callee (f := 69) rfl ?_); refine goesL_ (some 13) rfl rfl Try.func69 (by kernel_rfl) rfl #[.slice A0 l0.length c0, .slice A1 l1.length c1] rfl argsB ?_; (with_reducible refine (impl_versions.calls k _ _ l0 _ _ l1 t204 true _ ?side1 ?side2 ?side3 ?side4 A4.out).mono ?_); (case side1 => repeat (first | exact HR0.out | (with_reducible refine Kd.C_alloc ?_ _) | (with_reducible refine Kd.C_drewN ?_ _) | (with_reducible refine Kd.C_drew ?_))); (case side2 => exact HC0.out); (case side3 => repeat (first | exact HR1.out | (with_reducible refine Kd.C_alloc ?_ _) | (with_reducible refine Kd.C_drewN ?_ _) | (with_reducible refine Kd.C_drew ?_))); (case side4 => exact HC1.out); rintro e w12 ⟨v206, rfl, ho0, hb⟩; refine ⟨_, rfl, ?_⟩; have HO207 := Aside0.mk (Kd.S_lower ho0 (below_size (bW HB))); replace HB := uB HB hb; (try clear hb); (try clear hk); (try clear ho0)) | (go_at_call 72; (with_reducible refine (impl_within.calls a2 0 (l1.length : Int) false _ A6.out).mono ?_); rintro e w' ⟨rfl, ⟨nd, rfl⟩⟩))
   go_ret2
   exact ⟨_, eB, by first | exact Kd.R_nil _ _ _ _ _ | exact Kd.N_nil _ _ _ _ _ | exact Kd.V_nil _ _ _ _ _ | exact Kd.Q_nil _ _ _ _ _ | exact Kd.S_nil _ _ _ _ _, (bW HB)⟩
 ·replace H := iF (by decide) H
  simp only [Option.some.injEq, Prod.mk.injEq] at H
  obtain ⟨rfl, rfl⟩ := H
  go_enter Try.func34, Try.ntmps34
  go_wp2_with (first | ((with_reducible refine gate_callee (f := 69) rfl ?_); refine goesL_ (some 13) rfl rfl Try.func69 (by kernel_rfl) rfl #[.slice A0 l0.length c0, .slice A1 l1.length c1] rfl argsB ?_; (with_reducible refine (impl_versions.calls k _ _ l0 _ _ l1 t204 false _ ?side1 ?side2 ?side3 ?side4 A4.out).mono ?_); (case side1 => repeat (first | exact HR0.out | (with_reducible refine Kd.C_alloc ?_ _) | (with_reducible refine Kd.C_drewN ?_ _) | (with_reducible refine Kd.C_drew ?_))); (case side2 => exact HC0.out); (case side3 => repeat (first | exact HR1.out | (with_reducible refine Kd.C_alloc ?_ _) | (with_reducible refine Kd.C_drewN ?_ _) | (with_reducible refine Kd.C_drew ?_))); (case side4 => exact HC1.out); rintro e w13 ⟨v206, rfl, ho0, hb⟩; refine ⟨_, rfl, ?_⟩; have HO207 := Aside0.mk (Kd.S_lower ho0 (below_size (bW HB))); replace HB := uB HB hb; (try clear hb); (try clear hk); (try clear ho0)))
  go_ret2
  exact ⟨_, eB, by first | exact Kd.R_nil _ _ _ _ _ | exact Kd.N_nil _ _ _ _ _ | exact Kd.V_nil _ _ _ _ _ | exact Kd.Q_nil _ _ _ _ _ | exact Kd.S_nil _ _ _ _ _, (bW HB)⟩

/-! ### spec_l19Valid: function 58 -/
def spec_l19Valid.f (a0_0 a0_1 a0_2 a0_3 a0_4 a0_5 a0_6 a0_7 a0_8 a0_9 a0_10 a0_11 : Int) : Option (Bool) := (spec_l1In.f a0_1 0 11).bind fun t212 => (if t212 = true then (if a0_0 = 1 then (if (a0_2 == 0 && (a0_3 == 0 && (a0_4 == 0 && (a0_5 == 0 && (a0_6 == 0))))) = true then ((spec_l4Leg.f a0_7 a0_8 a0_9 a0_10 a0_11).bind fun t213 => (some t213)) else (some false)) else (if a0_0 = 2 then ((spec_l4Leg.f a0_2 a0_3 a0_4 a0_5 a0_6).bind fun t214 => (if t214 = true then (some (a0_7 == 0 && (a0_8 == 0 && (a0_9 == 0 && (a0_10 == 0 && (a0_11 == 0)))))) else (some false))) else (if a0_0 = 3 then ((spec_l4Leg.f a0_2 a0_3 a0_4 a0_5 a0_6).bind fun t215 => (if t215 = true then ((spec_l4Leg.f a0_7 a0_8 a0_9 a0_10 a0_11).bind fun t216 => (if t216 = true then (some (!(a0_2 == a0_7) || (!(a0_3 == a0_8) || (!(a0_4 == a0_9) || (!(a0_5 == a0_10) || (!(a0_6 == a0_11))))))) else (some false))) else (some false))) else (some false)))) else (some false))
set_option maxHeartbeats 8000000 in
set_option maxRecDepth 100000 in
theorem spec_l19Valid.calls (a0_0 a0_1 a0_2 a0_3 a0_4 a0_5 a0_6 a0_7 a0_8 a0_9 a0_10 a0_11 : Int) (r : Bool) (w : World) (h : spec_l19Valid.f a0_0 a0_1 a0_2 a0_3 a0_4 a0_5 a0_6 a0_7 a0_8 a0_9 a0_10 a0_11 = some r) :
  Calls Try.prog 58 #[.agg #[.int .i64 a0_0, .int .i64 a0_1, .int .i64 a0_2, .int .i64 a0_3, .int .i64 a0_4, .int .i64 a0_5, .int .i64 a0_6, .int .i64 a0_7, .int .i64 a0_8, .int .i64 a0_9, .int .i64 a0_10, .int .i64 a0_11]] w fun e w' => e = .returned (.bool r) ∧ Below w.heap.size w w' := by
 have hu28 := Try.underlying28
 have hu26 := Try.underlying26
 have HB := Aside0.mk (Below.refl w.heap.size w)
 have H := h
 clear h
 unfold spec_l19Valid.f at H
 replace H := bA H
 obtain ⟨t212, A2, H⟩ := H
 rcases Bool.eq_false_or_eq_true t212 with rfl | rfl
 ·replace H := iT rfl H
  replace H := ifI H
  rcases H with ⟨H, -, c4b0, c4b1⟩ | ⟨H, c4, c4b0, c4b1⟩
  ·by_cases c5 : (a0_2 == 0 && (a0_3 == 0 && (a0_4 == 0 && (a0_5 == 0 && (a0_6 == 0))))) = true
   ·rw [if_pos c5] at H
    have c5b0 : (a0_2 == 0 && (a0_3 == 0 && (a0_4 == 0 && (a0_5 == 0 && (a0_6 == 0))))) = true := c5
    (try (have c5b1 : decide (a0_2 = 0 && (a0_3 == 0 && (a0_4 == 0 && (a0_5 == 0 && (a0_6 == 0))))) = true := by simpa using c5))
    (try (have c5b2 : (a0_2 == 0 && (a0_3 == 0 && (a0_4 == 0 && (a0_5 == 0 && (a0_6 == 0))))) = true := by simpa using c5))
    clear c5
    replace H := bA H
    obtain ⟨t213, A6, H⟩ := H
    obtain rfl := Option.some.inj H
    go_enter Try.func58, Try.ntmps58
    go_wp2_with (first | ((with_reducible refine gD 1 ?_); refine bxE 1 28 #[.int .i64 a0_0, .int .i64 a0_1, .int .i64 a0_2, .int .i64 a0_3, .int .i64 a0_4, .int .i64 a0_5, .int .i64 a0_6, .int .i64 a0_7, .int .i64 a0_8, .int .i64 a0_9, .int .i64 a0_10, .int .i64 a0_11] fun gb210 w7 hg hbox hb => ?_; have BK210 := Aside0.mk hbox; have GE210 := gB HB hg; replace HB := uB HB hb; clear hb hbox hg) | ((with_reducible refine gD 3 ?_); refine bxE 3 26 #[.int .i64 0, .int .i64 0, .int .i64 0, .int .i64 0, .int .i64 0] fun gb211 w8 hg hbox hb => ?_; have BK211 := Aside0.mk hbox; have GE211 := gB HB hg; have ⟨NB210_211, NB211_210⟩ := nB BK210 hg; replace BK210 := uK BK210 hb; replace HB := uB HB hb; clear hb hbox hg; have hnb9 := NB211_210.out; have hnc9 := NB210_211.out; have ⟨hcz10_0, hcz10_1, hcz10_2, hcz10_3, hcz10_4, hfz10_0⟩ := cz5 BK211; have ⟨hcz11_0, hcz11_1, hcz11_2, hcz11_3, hcz11_4, hcz11_5, hcz11_6, hcz11_7, hcz11_8, hcz11_9, hcz11_10, hcz11_11, hfz11_0⟩ := cz12 BK210) | ((with_reducible refine gC 70 ?_); refine lA (some 7) Try.func70 (spec_l1In.calls a0_1 0 11 true _ A2.out) ?_; rintro _ ⟨nd, rfl⟩) | (go_at_call 88; (with_reducible refine (spec_l4Leg.calls a0_7 a0_8 a0_9 a0_10 a0_11 t213 _ A6.out).mono ?_); rintro e w12 ⟨rfl, hb⟩; replace BK210 := uQ BK210 hb #[.int .i64 a0_0, .int .i64 a0_1, .int .i64 a0_2, .int .i64 a0_3, .int .i64 a0_4, .int .i64 a0_5, .int .i64 a0_6, .int .i64 a0_7, .int .i64 a0_8, .int .i64 a0_9, .int .i64 a0_10, .int .i64 a0_11]; replace BK211 := uQ BK211 hb #[.int .i64 0, .int .i64 0, .int .i64 0, .int .i64 0, .int .i64 0]; replace HB := uB HB hb; (try clear hb)))
    go_ret
    exact ⟨eB, (bW HB)⟩
   ·rw [if_neg c5] at H
    have c5b0 : (a0_2 == 0 && (a0_3 == 0 && (a0_4 == 0 && (a0_5 == 0 && (a0_6 == 0))))) = false := by simpa using c5
    (try (have c5b1 : decide (a0_2 = 0 && (a0_3 == 0 && (a0_4 == 0 && (a0_5 == 0 && (a0_6 == 0))))) = false := by simpa using c5))
    (try (have c5b2 : (a0_2 == 0 && (a0_3 == 0 && (a0_4 == 0 && (a0_5 == 0 && (a0_6 == 0))))) = false := by simpa using c5))
    (try (have c5b3 : ¬ (a0_2 = 0 && (a0_3 == 0 && (a0_4 == 0 && (a0_5 == 0 && (a0_6 == 0))))) := by simpa using c5))
    clear c5
    obtain rfl := Option.some.inj H
    go_enter Try.func58, Try.ntmps58
    go_wp2_with (first | ((with_reducible refine gD 1 ?_); refine bxE 1 28 #[.int .i64 a0_0, .int .i64 a0_1, .int .i64 a0_2, .int .i64 a0_3, .int .i64 a0_4, .int .i64 a0_5, .int .i64 a0_6, .int .i64 a0_7, .int .i64 a0_8, .int .i64 a0_9, .int .i64 a0_10, .int .i64 a0_11] fun gb210 w13 hg hbox hb => ?_; have BK210 := Aside0.mk hbox; have GE210 := gB HB hg; replace HB := uB HB hb; clear hb hbox hg) | ((with_reducible refine gD 3 ?_); refine bxE 3 26 #[.int .i64 0, .int .i64 0, .int .i64 0, .int .i64 0, .int .i64 0] fun gb211 w14 hg hbox hb => ?_; have BK211 := Aside0.mk hbox; have GE211 := gB HB hg; have ⟨NB210_211, NB211_210⟩ := nB BK210 hg; replace BK210 := uK BK210 hb; replace HB := uB HB hb; clear hb hbox hg; have hnb15 := NB211_210.out; have hnc15 := NB210_211.out; have ⟨hcz16_0, hcz16_1, hcz16_2, hcz16_3, hcz16_4, hfz16_0⟩ := cz5 BK211; have ⟨hcz17_0, hcz17_1, hcz17_2, hcz17_3, hcz17_4, hcz17_5, hcz17_6, hcz17_7, hcz17_8, hcz17_9, hcz17_10, hcz17_11, hfz17_0⟩ := cz12 BK210) | ((with_reducible refine gC 70 ?_); refine lA (some 7) Try.func70 (spec_l1In.calls a0_1 0 11 true _ A2.out) ?_; rintro _ ⟨nd, rfl⟩))
    go_ret
    exact ⟨eB, (bW HB)⟩
  ·replace H := ifI H
   rcases H with ⟨H, -, c18b0, c18b1⟩ | ⟨H, c18, c18b0, c18b1⟩
   ·replace H := bA H
    obtain ⟨t214, A19, H⟩ := H
    rcases Bool.eq_false_or_eq_true t214 with rfl | rfl
    ·replace H := iT rfl H
     obtain rfl := Option.some.inj H
     go_enter Try.func58, Try.ntmps58
     go_wp2_with (first | ((with_reducible refine gD 1 ?_); refine bxE 1 28 #[.int .i64 a0_0, .int .i64 a0_1, .int .i64 a0_2, .int .i64 a0_3, .int .i64 a0_4, .int .i64 a0_5, .int .i64 a0_6, .int .i64 a0_7, .int .i64 a0_8, .int .i64 a0_9, .int .i64 a0_10, .int .i64 a0_11] fun gb210 w21 hg hbox hb => ?_; have BK210 := Aside0.mk hbox; have GE210 := gB HB hg; replace HB := uB HB hb; clear hb hbox hg) | ((with_reducible refine gD 3 ?_); refine bxE 3 26 #[.int .i64 0, .int .i64 0, .int .i64 0, .int .i64 0, .int .i64 0] fun gb211 w22 hg hbox hb => ?_; have BK211 := Aside0.mk hbox; have GE211 := gB HB hg; have ⟨NB210_211, NB211_210⟩ := nB BK210 hg; replace BK210 := uK BK210 hb; replace HB := uB HB hb; clear hb hbox hg; have hnb23 := NB211_210.out; have hnc23 := NB210_211.out; have ⟨hcz24_0, hcz24_1, hcz24_2, hcz24_3, hcz24_4, hfz24_0⟩ := cz5 BK211; have ⟨hcz25_0, hcz25_1, hcz25_2, hcz25_3, hcz25_4, hcz25_5, hcz25_6, hcz25_7, hcz25_8, hcz25_9, hcz25_10, hcz25_11, hfz25_0⟩ := cz12 BK210) | ((with_reducible refine gC 70 ?_); refine lA (some 7) Try.func70 (spec_l1In.calls a0_1 0 11 true _ A2.out) ?_; rintro _ ⟨nd, rfl⟩) | ((with_reducible refine gC 88 ?_); refine lA (some 26) Try.func88 (spec_l4Leg.calls a0_2 a0_3 a0_4 a0_5 a0_6 true _ A19.out) ?_; intro w26 hb; replace BK210 := uQ BK210 hb #[.int .i64 a0_0, .int .i64 a0_1, .int .i64 a0_2, .int .i64 a0_3, .int .i64 a0_4, .int .i64 a0_5, .int .i64 a0_6, .int .i64 a0_7, .int .i64 a0_8, .int .i64 a0_9, .int .i64 a0_10, .int .i64 a0_11]; replace BK211 := uQ BK211 hb #[.int .i64 0, .int .i64 0, .int .i64 0, .int .i64 0, .int .i64 0]; replace HB := uB HB hb; (try clear hb); have ⟨hcz27_0, hcz27_1, hcz27_2, hcz27_3, hcz27_4, hcz27_5, hcz27_6, hcz27_7, hcz27_8, hcz27_9, hcz27_10, hcz27_11, hfz27_0⟩ := cz12 BK210; have ⟨hcz28_0, hcz28_1, hcz28_2, hcz28_3, hcz28_4, hfz28_0⟩ := cz5 BK211))
     go_ret
     exact ⟨eB, (bW HB)⟩
    ·replace H := iF (by decide) H
     obtain rfl := Option.some.inj H
     go_enter Try.func58, Try.ntmps58
     go_wp2_with (first | ((with_reducible refine gD 1 ?_); refine bxE 1 28 #[.int .i64 a0_0, .int .i64 a0_1, .int .i64 a0_2, .int .i64 a0_3, .int .i64 a0_4, .int .i64 a0_5, .int .i64 a0_6, .int .i64 a0_7, .int .i64 a0_8, .int .i64 a0_9, .int .i64 a0_10, .int .i64 a0_11] fun gb210 w29 hg hbox hb => ?_; have BK210 := Aside0.mk hbox; have GE210 := gB HB hg; replace HB := uB HB hb; clear hb hbox hg) | ((with_reducible refine gD 3 ?_); refine bxE 3 26 #[.int .i64 0, .int .i64 0, .int .i64 0, .int .i64 0, .int .i64 0] fun gb211 w30 hg hbox hb => ?_; have BK211 := Aside0.mk hbox; have GE211 := gB HB hg; have ⟨NB210_211, NB211_210⟩ := nB BK210 hg; replace BK210 := uK BK210 hb; replace HB := uB HB hb; clear hb hbox hg; have hnb31 := NB211_210.out; have hnc31 := NB210_211.out; have ⟨hcz32_0, hcz32_1, hcz32_2, hcz32_3, hcz32_4, hfz32_0⟩ := cz5 BK211; have ⟨hcz33_0, hcz33_1, hcz33_2, hcz33_3, hcz33_4, hcz33_5, hcz33_6, hcz33_7, hcz33_8, hcz33_9, hcz33_10, hcz33_11, hfz33_0⟩ := cz12 BK210) | ((with_reducible refine gC 70 ?_); refine lA (some 7) Try.func70 (spec_l1In.calls a0_1 0 11 true _ A2.out) ?_; rintro _ ⟨nd, rfl⟩) | ((with_reducible refine gC 88 ?_); refine lA (some 26) Try.func88 (spec_l4Leg.calls a0_2 a0_3 a0_4 a0_5 a0_6 false _ A19.out) ?_; intro w34 hb; replace BK210 := uQ BK210 hb #[.int .i64 a0_0, .int .i64 a0_1, .int .i64 a0_2, .int .i64 a0_3, .int .i64 a0_4, .int .i64 a0_5, .int .i64 a0_6, .int .i64 a0_7, .int .i64 a0_8, .int .i64 a0_9, .int .i64 a0_10, .int .i64 a0_11]; replace BK211 := uQ BK211 hb #[.int .i64 0, .int .i64 0, .int .i64 0, .int .i64 0, .int .i64 0]; replace HB := uB HB hb; (try clear hb)))
     go_ret
     exact ⟨eB, (bW HB)⟩
   ·replace H := ifI H
    rcases H with ⟨H, -, c35b0, c35b1⟩ | ⟨H, c35, c35b0, c35b1⟩
    ·replace H := bA H
     obtain ⟨t215, A36, H⟩ := H
     rcases Bool.eq_false_or_eq_true t215 with rfl | rfl
     ·replace H := iT rfl H
      replace H := bA H
      obtain ⟨t216, A38, H⟩ := H
      rcases Bool.eq_false_or_eq_true t216 with rfl | rfl
      ·replace H := iT rfl H
       obtain rfl := Option.some.inj H
       go_enter Try.func58, Try.ntmps58
       go_wp2_with (first | ((with_reducible refine gD 1 ?_); refine bxE 1 28 #[.int .i64 a0_0, .int .i64 a0_1, .int .i64 a0_2, .int .i64 a0_3, .int .i64 a0_4, .int .i64 a0_5, .int .i64 a0_6, .int .i64 a0_7, .int .i64 a0_8, .int .i64 a0_9, .int .i64 a0_10, .int .i64 a0_11] fun gb210 w40 hg hbox hb => ?_; have BK210 := Aside0.mk hbox; have GE210 := gB HB hg; replace HB := uB HB hb; clear hb hbox hg) | ((with_reducible refine gD 3 ?_); refine bxE 3 26 #[.int .i64 0, .int .i64 0, .int .i64 0, .int .i64 0, .int .i64 0] fun gb211 w41 hg hbox hb => ?_; have BK211 := Aside0.mk hbox; have GE211 := gB HB hg; have ⟨NB210_211, NB211_210⟩ := nB BK210 hg; replace BK210 := uK BK210 hb; replace HB := uB HB hb; clear hb hbox hg; have hnb42 := NB211_210.out; have hnc42 := NB210_211.out; have ⟨hcz43_0, hcz43_1, hcz43_2, hcz43_3, hcz43_4, hfz43_0⟩ := cz5 BK211; have ⟨hcz44_0, hcz44_1, hcz44_2, hcz44_3, hcz44_4, hcz44_5, hcz44_6, hcz44_7, hcz44_8, hcz44_9, hcz44_10, hcz44_11, hfz44_0⟩ := cz12 BK210) | ((with_reducible refine gC 70 ?_); refine lA (some 7) Try.func70 (spec_l1In.calls a0_1 0 11 true _ A2.out) ?_; rintro _ ⟨nd, rfl⟩) | (go_at_call 88; (with_reducible refine (spec_l4Leg.calls a0_2 a0_3 a0_4 a0_5 a0_6 true _ A36.out).mono ?_); rintro e w45 ⟨rfl, hb⟩; replace BK210 := uQ BK210 hb #[.int .i64 a0_0, .int .i64 a0_1, .int .i64 a0_2, .int .i64 a0_3, .int .i64 a0_4, .int .i64 a0_5, .int .i64 a0_6, .int .i64 a0_7, .int .i64 a0_8, .int .i64 a0_9, .int .i64 a0_10, .int .i64 a0_11]; replace BK211 := uQ BK211 hb #[.int .i64 0, .int .i64 0, .int .i64 0, .int .i64 0, .int .i64 0]; replace HB := uB HB hb; (try clear hb); have ⟨hcz46_0, hcz46_1, hcz46_2, hcz46_3, hcz46_4, hcz46_5, hcz46_6, hcz46_7, hcz46_8, hcz46_9, hcz46_10, hcz46_11, hfz46_0⟩ := cz12 BK210) | (go_at_call 88; (with_reducible refine (spec_l4Leg.calls a0_7 a0_8 a0_9 a0_10 a0_11 true _ A38.out).mono ?_); rintro e w47 ⟨rfl, hb⟩; replace BK210 := uK BK210 hb; replace BK211 := uK BK211 hb; replace HB := uB HB hb; (try clear hb); have ⟨hcz48_0, hcz48_1, hcz48_2, hcz48_3, hcz48_4, hcz48_5, hcz48_6, hcz48_7, hcz48_8, hcz48_9, hcz48_10, hcz48_11, hfz48_0⟩ := cz12 BK210))
       go_ret
       exact ⟨eB, (bW HB)⟩
      ·replace H := iF (by decide) H
       obtain rfl := Option.some.inj H
       go_enter Try.func58, Try.ntmps58
       go_wp2_with (first | ((with_reducible refine gD 1 ?_); refine bxE 1 28 #[.int .i64 a0_0, .int .i64 a0_1, .int .i64 a0_2, .int .i64 a0_3, .int .i64 a0_4, .int .i64 a0_5, .int .i64 a0_6, .int .i64 a0_7, .int .i64 a0_8, .int .i64 a0_9, .int .i64 a0_10, .int .i64 a0_11] fun gb210 w49 hg hbox hb => ?_; have BK210 := Aside0.mk hbox; have GE210 := gB HB hg; replace HB := uB HB hb; clear hb hbox hg) | ((with_reducible refine gD 3 ?_); refine bxE 3 26 #[.int .i64 0, .int .i64 0, .int .i64 0, .int .i64 0, .int .i64 0] fun gb211 w50 hg hbox hb => ?_; have BK211 := Aside0.mk hbox; have GE211 := gB HB hg; have ⟨NB210_211, NB211_210⟩ := nB BK210 hg; replace BK210 := uK BK210 hb; replace HB := uB HB hb; clear hb hbox hg; have hnb51 := NB211_210.out; have hnc51 := NB210_211.out; have ⟨hcz52_0, hcz52_1, hcz52_2, hcz52_3, hcz52_4, hfz52_0⟩ := cz5 BK211; have ⟨hcz53_0, hcz53_1, hcz53_2, hcz53_3, hcz53_4, hcz53_5, hcz53_6, hcz53_7, hcz53_8, hcz53_9, hcz53_10, hcz53_11, hfz53_0⟩ := cz12 BK210) | ((with_reducible refine gC 70 ?_); refine lA (some 7) Try.func70 (spec_l1In.calls a0_1 0 11 true _ A2.out) ?_; rintro _ ⟨nd, rfl⟩) | (go_at_call 88; (with_reducible refine (spec_l4Leg.calls a0_2 a0_3 a0_4 a0_5 a0_6 true _ A36.out).mono ?_); rintro e w54 ⟨rfl, hb⟩; replace BK210 := uQ BK210 hb #[.int .i64 a0_0, .int .i64 a0_1, .int .i64 a0_2, .int .i64 a0_3, .int .i64 a0_4, .int .i64 a0_5, .int .i64 a0_6, .int .i64 a0_7, .int .i64 a0_8, .int .i64 a0_9, .int .i64 a0_10, .int .i64 a0_11]; replace BK211 := uQ BK211 hb #[.int .i64 0, .int .i64 0, .int .i64 0, .int .i64 0, .int .i64 0]; replace HB := uB HB hb; (try clear hb); have ⟨hcz55_0, hcz55_1, hcz55_2, hcz55_3, hcz55_4, hcz55_5, hcz55_6, hcz55_7, hcz55_8, hcz55_9, hcz55_10, hcz55_11, hfz55_0⟩ := cz12 BK210) | (go_at_call 88; (with_reducible refine (spec_l4Leg.calls a0_7 a0_8 a0_9 a0_10 a0_11 false _ A38.out).mono ?_); rintro e w56 ⟨rfl, hb⟩; replace BK210 := uK BK210 hb; replace BK211 := uK BK211 hb; replace HB := uB HB hb; (try clear hb)))
       go_ret
       exact ⟨eB, (bW HB)⟩
     ·replace H := iF (by decide) H
      obtain rfl := Option.some.inj H
      go_enter Try.func58, Try.ntmps58
      go_wp2_with (first | ((with_reducible refine gD 1 ?_); refine bxE 1 28 #[.int .i64 a0_0, .int .i64 a0_1, .int .i64 a0_2, .int .i64 a0_3, .int .i64 a0_4, .int .i64 a0_5, .int .i64 a0_6, .int .i64 a0_7, .int .i64 a0_8, .int .i64 a0_9, .int .i64 a0_10, .int .i64 a0_11] fun gb210 w57 hg hbox hb => ?_; have BK210 := Aside0.mk hbox; have GE210 := gB HB hg; replace HB := uB HB hb; clear hb hbox hg) | ((with_reducible refine gD 3 ?_); refine bxE 3 26 #[.int .i64 0, .int .i64 0, .int .i64 0, .int .i64 0, .int .i64 0] fun gb211 w58 hg hbox hb => ?_; have BK211 := Aside0.mk hbox; have GE211 := gB HB hg; have ⟨NB210_211, NB211_210⟩ := nB BK210 hg; replace BK210 := uK BK210 hb; replace HB := uB HB hb; clear hb hbox hg; have hnb59 := NB211_210.out; have hnc59 := NB210_211.out; have ⟨hcz60_0, hcz60_1, hcz60_2, hcz60_3, hcz60_4, hfz60_0⟩ := cz5 BK211; have ⟨hcz61_0, hcz61_1, hcz61_2, hcz61_3, hcz61_4, hcz61_5, hcz61_6, hcz61_7, hcz61_8, hcz61_9, hcz61_10, hcz61_11, hfz61_0⟩ := cz12 BK210) | ((with_reducible refine gC 70 ?_); refine lA (some 7) Try.func70 (spec_l1In.calls a0_1 0 11 true _ A2.out) ?_; rintro _ ⟨nd, rfl⟩) | (go_at_call 88; (with_reducible refine (spec_l4Leg.calls a0_2 a0_3 a0_4 a0_5 a0_6 false _ A36.out).mono ?_); rintro e w62 ⟨rfl, hb⟩; replace BK210 := uQ BK210 hb #[.int .i64 a0_0, .int .i64 a0_1, .int .i64 a0_2, .int .i64 a0_3, .int .i64 a0_4, .int .i64 a0_5, .int .i64 a0_6, .int .i64 a0_7, .int .i64 a0_8, .int .i64 a0_9, .int .i64 a0_10, .int .i64 a0_11]; replace BK211 := uQ BK211 hb #[.int .i64 0, .int .i64 0, .int .i64 0, .int .i64 0, .int .i64 0]; replace HB := uB HB hb; (try clear hb)))
      go_ret
      exact ⟨eB, (bW HB)⟩
    ·obtain rfl := Option.some.inj H
     go_enter Try.func58, Try.ntmps58
     go_wp2_with (first | ((with_reducible refine gD 1 ?_); refine bxE 1 28 #[.int .i64 a0_0, .int .i64 a0_1, .int .i64 a0_2, .int .i64 a0_3, .int .i64 a0_4, .int .i64 a0_5, .int .i64 a0_6, .int .i64 a0_7, .int .i64 a0_8, .int .i64 a0_9, .int .i64 a0_10, .int .i64 a0_11] fun gb210 w63 hg hbox hb => ?_; have BK210 := Aside0.mk hbox; have GE210 := gB HB hg; replace HB := uB HB hb; clear hb hbox hg) | ((with_reducible refine gD 3 ?_); refine bxE 3 26 #[.int .i64 0, .int .i64 0, .int .i64 0, .int .i64 0, .int .i64 0] fun gb211 w64 hg hbox hb => ?_; have BK211 := Aside0.mk hbox; have GE211 := gB HB hg; have ⟨NB210_211, NB211_210⟩ := nB BK210 hg; replace BK210 := uK BK210 hb; replace HB := uB HB hb; clear hb hbox hg; have hnb65 := NB211_210.out; have hnc65 := NB210_211.out; have ⟨hcz66_0, hcz66_1, hcz66_2, hcz66_3, hcz66_4, hfz66_0⟩ := cz5 BK211; have ⟨hcz67_0, hcz67_1, hcz67_2, hcz67_3, hcz67_4, hcz67_5, hcz67_6, hcz67_7, hcz67_8, hcz67_9, hcz67_10, hcz67_11, hfz67_0⟩ := cz12 BK210) | ((with_reducible refine gC 70 ?_); refine lA (some 7) Try.func70 (spec_l1In.calls a0_1 0 11 true _ A2.out) ?_; rintro _ ⟨nd, rfl⟩))
     go_ret
     exact ⟨eB, (bW HB)⟩
 ·replace H := iF (by decide) H
  obtain rfl := Option.some.inj H
  go_enter Try.func58, Try.ntmps58
  go_wp2_with (first | ((with_reducible refine gD 1 ?_); refine bxE 1 28 #[.int .i64 a0_0, .int .i64 a0_1, .int .i64 a0_2, .int .i64 a0_3, .int .i64 a0_4, .int .i64 a0_5, .int .i64 a0_6, .int .i64 a0_7, .int .i64 a0_8, .int .i64 a0_9, .int .i64 a0_10, .int .i64 a0_11] fun gb210 w68 hg hbox hb => ?_; have BK210 := Aside0.mk hbox; have GE210 := gB HB hg; replace HB := uB HB hb; clear hb hbox hg) | ((with_reducible refine gD 3 ?_); refine bxE 3 26 #[.int .i64 0, .int .i64 0, .int .i64 0, .int .i64 0, .int .i64 0] fun gb211 w69 hg hbox hb => ?_; have BK211 := Aside0.mk hbox; have GE211 := gB HB hg; have ⟨NB210_211, NB211_210⟩ := nB BK210 hg; replace BK210 := uK BK210 hb; replace HB := uB HB hb; clear hb hbox hg; have hnb70 := NB211_210.out; have hnc70 := NB210_211.out; have ⟨hcz71_0, hcz71_1, hcz71_2, hcz71_3, hcz71_4, hfz71_0⟩ := cz5 BK211; have ⟨hcz72_0, hcz72_1, hcz72_2, hcz72_3, hcz72_4, hcz72_5, hcz72_6, hcz72_7, hcz72_8, hcz72_9, hcz72_10, hcz72_11, hfz72_0⟩ := cz12 BK210) | ((with_reducible refine gC 70 ?_); refine lA (some 7) Try.func70 (spec_l1In.calls a0_1 0 11 false _ A2.out) ?_; rintro _ ⟨nd, rfl⟩))
  go_ret
  exact ⟨eB, (bW HB)⟩

end Go.Proofs.Ytinelmmnajelaaa.QFnDiffs
