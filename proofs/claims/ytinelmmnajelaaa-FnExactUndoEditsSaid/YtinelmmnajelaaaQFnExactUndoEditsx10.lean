/- Contracts of Go functions that FnExactUndoEdits reaches: the call computes what the plain function says. No condition. -/
import Derived.Test.YtinelmmnajelaaaQFnExactUndoEditsx0
import Derived.Test.YtinelmmnajelaaaQFnExactUndoEditsx7
import Derived.Test.YtinelmmnajelaaaQFnExactUndoEditsx8
import Derived.Test.YtinelmmnajelaaaQFnExactUndoEditsx9
namespace Go.Proofs.Ytinelmmnajelaaa.QFnExactUndoEdits
open Go.RowKit Go.Proofs.YtinelmmnajelaaaW.PrintWords Go.Proofs.YtinelmmnajelaaaW.PrintLast Go.Proofs.YtinelmmnajelaaaW.PrintMore
attribute [local go_sem] max2_int min2_int max_two min_two max_three min_three max_four min_four   -- for this text's walks alone
set_option linter.unusedVariables false
set_option linter.unusedSimpArgs false

/-! ### impl_versions: function 69 -/
mutual
def impl_versions.j0 : Nat → List (S26) → List (S28) → Bool → Option ((List (List (S26))) × Bool)
 | 0, _, _, _ => none
 | k + 1, x0, x1, x18 => if x18 = true then (some (([] : List (List (S26))), false)) else ((impl_Leg_91.f x0).bind fun t316 => (impl_versions.l0 k (([t316] : List (List (S26)))) x1 (x1.length : Int) 0))
def impl_versions.l0 : Nat → List (List (S26)) → List (S28) → Int → Int → Option ((List (List (S26))) × Bool)
 | 0, _, _, _, _ => none
 | k + 1, x6, x22, x23, x24 => if x24 < x23 then (if 0 ≤ x24 then (if x24 < (x22.length : Int) then (if x24 < (x6.length : Int) then ((impl_apply.f k (rd_L6 x6 x24) ((rd_T28 x22 x24).f0) ((rd_T28 x22 x24).f1) ((rd_T28 x22 x24).f2.f0) ((rd_T28 x22 x24).f2.f1) ((rd_T28 x22 x24).f2.f2) ((rd_T28 x22 x24).f2.f3) ((rd_T28 x22 x24).f2.f4) ((rd_T28 x22 x24).f3.f0) ((rd_T28 x22 x24).f3.f1) ((rd_T28 x22 x24).f3.f2) ((rd_T28 x22 x24).f3.f3) ((rd_T28 x22 x24).f3.f4)).bind fun bt325 => (if bt325.2 = true then (if x6.length < 5864062014805 then (impl_versions.l0 k (x6 ++ [bt325.1]) x22 x23 (wrap64 (x24 + 1))) else (none)) else (some (([] : List (List (S26))), false)))) else (none)) else (none)) else (none)) else (some (x6, true))
end
def impl_versions.f (k : Nat) (l0 : List (S26)) (l1 : List (S28)) : Option ((List (List (S26))) × Bool) := (impl_areLegs.f k l0).bind fun t315 => (if t315 = true then (impl_versions.j0 k l0 l1 (decide ((l1.length : Int) > 10))) else (impl_versions.j0 k l0 l1 true))
theorem impl_versions.mono_l : ∀ k, (∀ y0 y1 y2, LeO (impl_versions.j0 k y0 y1 y2) (impl_versions.j0 (k + 1) y0 y1 y2)) ∧ (∀ y0 y1 y2 y3, LeO (impl_versions.l0 k y0 y1 y2 y3) (impl_versions.l0 (k + 1) y0 y1 y2 y3))
 | 0 => ⟨fun _ _ _ r h => by simp [impl_versions.j0] at h, fun _ _ _ _ r h => by simp [impl_versions.l0] at h⟩
 | k + 1 => by
  obtain ⟨ih0, ih1⟩ := impl_versions.mono_l k
  refine ⟨?_, ?_⟩
  ·intro y0 y1 y2
   unfold impl_versions.j0
   repeat' with_reducible first | apply ih0 | apply ih1 | apply impl_apply.mono | apply impl_areLegs.mono | exact LeO.refl _ | exact LeO.none _ | refine LeO.ite ?_ ?_ | refine LeO.bind ?_ (fun _ => ?_)
  ·intro y0 y1 y2 y3
   unfold impl_versions.l0
   repeat' with_reducible first | apply ih0 | apply ih1 | apply impl_apply.mono | apply impl_areLegs.mono | exact LeO.refl _ | exact LeO.none _ | refine LeO.ite ?_ ?_ | refine LeO.bind ?_ (fun _ => ?_)
theorem impl_versions.mono : ∀ a0 a1 k, LeO (impl_versions.f k a0 a1) (impl_versions.f (k + 1) a0 a1) := by
 intro a0 a1 k
 obtain ⟨ih0, ih1⟩ := impl_versions.mono_l k
 unfold impl_versions.f
 repeat' with_reducible first | apply ih0 | apply ih1 | apply impl_apply.mono | apply impl_areLegs.mono | exact LeO.refl _ | exact LeO.none _ | refine LeO.ite ?_ ?_ | refine LeO.bind ?_ (fun _ => ?_)
def impl_versions.T7 : Bool × List (List Nat × List Nat) := (true, [([], []), ([], []), ([0, 1], [0, 1]), ([2], [2]), ([], []), ([3, 4], [3, 4]), ([5], [5]), ([6], [6]), ([6], [6]), ([7, 5, 0, 1, 2, 3, 4, 5, 6, 7], [7]), ([8, 9, 0, 1, 2, 3, 4, 5, 6, 7, 8, 9], [8])])
def impl_versions.B7 : List Nat := [0, 0, 3, 7, 0, 31, 63, 127, 127, 255, 1023]
theorem impl_versions.tab7 : rtab .any (opsOf Try.f69 7) = impl_versions.T7 := by kernel_rfl
theorem impl_versions.bits7 : waitsOk impl_versions.T7.2 impl_versions.B7 = true := by kernel_rfl
set_option maxHeartbeats 8000000 in
set_option maxRecDepth 100000 in
theorem impl_versions.calls (k : Nat) (A0 : Option Addr) (c0 : Nat) (l0 : List (S26)) (A1 : Option Addr) (c1 : Nat) (l1 : List (S28)) (r1 : List (List (S26))) (r2 : Bool) (w : World) (hr0 : Kd.C k26 w A0 l0.length l0) (hc0 : l0.length ≤ c0) (hr1 : Kd.C k28 w A1 l1.length l1) (hc1 : l1.length ≤ c1) (h : impl_versions.f k l0 l1 = some (r1, r2)) :
  Calls Try.prog 69 #[.slice A0 l0.length c0, .slice A1 l1.length c1] w fun e w' => ∃ v0_ : Value, e = .returned (.tuple #[v0_, .bool r2]) ∧ Kd.N (Kd.slice 26 k26) 39 w' w.heap.size (fun k_ => (w.heap.size ≤ k_)) v0_ r1 ∧ Below w.heap.size w w' := by
 have hu28 := Try.underlying28
 have HR0 := Aside0.mk hr0
 have HC0 := Aside0.mk hc0
 clear hr0 hc0
 have HR1 := Aside0.mk hr1
 have HC1 := Aside0.mk hc1
 clear hr1 hc1
 have HB := Aside0.mk (Below.refl w.heap.size w)
 have H := h
 clear h
 unfold impl_versions.f at H
 have HC3 := Aside0.mk H
 clear H
 go_enter Try.func69, Try.ntmps69
 go_upto_region 1 with (fail)
 go_cut [18] (fun v18 wc => ∃ (kq : Nat) (x18_2 : Bool), v18 = .bool x18_2 ∧ Aside0 (impl_versions.j0 kq l0 l1 x18_2 = some (r1, r2)) ∧ Aside0 (kq ≤ k) ∧ Aside0 (Below w.heap.size w wc))
 case first =>
  have H := HC3.out
  clear HC3
  replace H := bA H
  obtain ⟨t315, A4, H⟩ := H
  rcases Bool.eq_false_or_eq_true t315 with rfl | rfl
  ·replace H := iT rfl H
   have H' := Aside0.mk H
   clear H
   go_wp2_with (first | ((with_reducible refine gC 65 ?_); refine lA (some 12) Try.func65 (impl_areLegs.calls k _ _ l0 true _ ?side1 ?side2 A4.out) ?_; (case side1 => repeat (first | exact (Kd.C_below HR0.out HB.out) | (with_reducible refine Kd.C_alloc ?_ _) | (with_reducible refine Kd.C_drewN ?_ _) | (with_reducible refine Kd.C_drew ?_))); (case side2 => exact HC0.out); intro w6 hb; replace HB := uB HB hb; (try clear hb); (try clear hk)))
   go_meet
   case rel => exact ⟨_, (decide ((l1.length : Int) > 10)), rB, H', leB, (aB HB)⟩
  ·replace H := iF (by decide) H
   have H' := Aside0.mk H
   clear H
   go_wp2_with (first | ((with_reducible refine gC 65 ?_); refine lA (some 12) Try.func65 (impl_areLegs.calls k _ _ l0 false _ ?side1 ?side2 A4.out) ?_; (case side1 => repeat (first | exact (Kd.C_below HR0.out HB.out) | (with_reducible refine Kd.C_alloc ?_ _) | (with_reducible refine Kd.C_drewN ?_ _) | (with_reducible refine Kd.C_drew ?_))); (case side2 => exact HC0.out); intro w7 hb; replace HB := uB HB hb; (try clear hb); (try clear hk)))
   go_meet
   case rel => exact ⟨_, (true), rB, H', leB, (aB HB)⟩
 case rest =>
  clear HC3
  try clear c1
  obtain ⟨kq, x18_2, rfl, HA, HJ2, HB⟩ := hcut
  cases kq with
  | zero => exact absurd HA.out (by simp [impl_versions.j0])
  | succ kj2 =>
   have H := HA.out
   clear HA
   simp only [impl_versions.j0] at H
   rcases Bool.eq_false_or_eq_true x18_2 with rfl | rfl
   ·replace H := iT rfl H
    simp only [Option.some.injEq, Prod.mk.injEq] at H
    obtain ⟨rfl, rfl⟩ := H
    go_wp2
    go_ret2
    exact ⟨_, eB, by first | exact Kd.S_nil _ _ _ _ _ | exact Kd.N_nil _ _ _ _ _ | exact Kd.V_nil _ _ _ _ _ | exact Kd.Q_nil _ _ _ _ _ | exact Kd.R_nil _ _ _ _ _, (bW HB)⟩
   ·replace H := iF (by decide) H
    replace H := bA H
    obtain ⟨t316, A9, H⟩ := H
    obtain ⟨y319, hy319⟩ : ∃ y_ : List (List (S26)), y_ = (([t316] : List (List (S26)))) := ⟨_, rfl⟩
    replace H : (impl_versions.l0 kj2 y319 l1 (l1.length : Int) 0) = some (r1, r2) := by first | (rw [hy319]; with_reducible exact H) | (have H2_ := (Option.bind_some _ _).symm.trans H; rw [hy319]; with_reducible exact H2_) | (have H2_ := (Option.bind_some _ _).symm.trans H; with_reducible exact H2_) | with_reducible exact H | (rw [hy319]; exact H) | exact H
    have Ny319 := Aside0.mk hy319
    clear hy319
    have H' := Aside0.mk H
    clear H
    go_wp2_with (first | ((with_reducible refine gate_callee (f := 91) rfl ?_); refine goesL_ (some 20) rfl rfl Try.func91 (by kernel_rfl) rfl #[.slice A0 l0.length c0] rfl argsB ?_; (with_reducible refine (impl_Leg_91.calls _ _ l0 t316 _ ?side1 ?side2 A9.out).mono ?_); (case side1 => repeat (first | exact (Kd.C_below HR0.out HB.out) | (with_reducible refine Kd.C_alloc ?_ _) | (with_reducible refine Kd.C_drewN ?_ _) | (with_reducible refine Kd.C_drew ?_))); (case side2 => exact HC0.out); rintro e w10 ⟨v317, rfl, ho0, hb⟩; refine ⟨_, rfl, ?_⟩; have HO318 := Aside0.mk (Kd.R_lower (Kd.R_newM (M := fun k_ => (w.heap.size ≤ k_)) ho0 (below_size (bW HB)) (fun k_ h_ => h_)) (below_size (bW HB))); replace HB := uB HB hb; (try clear hb); (try clear hk); (try clear ho0); obtain ⟨Ao11, co11, eo11⟩ := Kd.R_slice HO318.out; subst eo11) | ((with_reducible refine gate_dst (N := 21) rfl ?_); (try (refine gate_guard (by rfl) ?_; dsimp only)); refine Kd.N_lit (Kd.slice 26 k26) _ 39 ?hg (N' := 21) ?hd (xs := ([t316] : List (List (S26)))) (inner := [.slice Ao11 t316.length co11]) (ok := (fun k_ => (w.heap.size ≤ k_))) (okp := (fun k_ => (w.heap.size ≤ k_))) ?hr ?hp (fun _ hk => hk) ((show ∀ k_, w10.heap.size ≤ k_ → (fun k_ => (w.heap.size ≤ k_)) k_ from fun k_ hk => (Nat.le_trans (below_size (bW HB)) hk)) _ (Nat.le_refl _)) (Below.refl _ _) (Nat.le_refl _) (by simp) ?_; (case hd => rfl); (case hg => rfl); (case hr => first | (go_simp; done) | (go_simp; rfl)); (case hp => exact (Reps.one (show Kd.FK (Kd.slice 26 k26) _ _ t316 [.slice Ao11 t316.length co11] from (Kd.FK_slice_mk (Kd.R_reads' (Kd.R_mono (ok' := (fun k_ => (w.heap.size ≤ k_))) (HO318.out) (fun k_ hk => hk.1))).2.1 (Kd.R_F (Kd.R_mono (ok' := (fun k_ => (w.heap.size ≤ k_))) (HO318.out) (fun k_ hk => hk.1))))) (Reps.none _ _))); intro v320 w12 ho13 hb hg_ hnew_; clear hg_ hnew_; (first | rw [← Ny319.out] at ho13 | (simp only [Int.reduceToNat] at ho13; rw [← Ny319.out] at ho13)); have HO321 := Aside0.mk (Kd.N_lower ho13 (below_size (bW HB))); replace HB := uB HB hb; clear HO318; clear hb ho13))
    (try simp only [Act.put, List.setIfInBounds_toArray, List.set_cons_zero, List.set_cons_succ])
    go_loopg [6, 24] kj2 (fun kq v6 v24 w' => ∃ (x6_2 : List (List (S26))) (x24_2 : Int), v24 = .int .i64 x24_2 ∧ Aside0 (impl_versions.l0 kq x6_2 l1 (l1.length : Int) x24_2 = some (r1, r2)) ∧ Aside0 (kq ≤ kj2) ∧ Aside0 (Kd.N (Kd.slice 26 k26) 39 w' w.heap.size (fun k_ => (w.heap.size ≤ k_)) v6 x6_2) ∧ Aside0 (Below w.heap.size w w'))
    case atStart => exact ⟨(y319), (0), rB, H', ⟨Nat.le_refl _⟩, ⟨by (with_reducible repeat (first | apply Kd.N_alloc | apply Kd.N_drewN | apply Kd.N_drew)); exact HO321.out⟩, (aB HB)⟩
    case round =>
     clear H'
     try clear c1
     obtain ⟨x6_2, x24_2, rfl, HA, HK2, HO_6, HB⟩ := hrel
     cases gk with
     | zero => exact absurd HA.out (by simp [impl_versions.l0])
     | succ k2 =>
      have H := HA.out
      clear HA
      simp only [impl_versions.l0] at H
      replace H := ifD H
      rcases H with ⟨H, -, c14b0⟩ | ⟨H, -, c14b0⟩
      ·by_cases c15 : 0 ≤ x24_2
       ·rw [if_pos c15] at H
        have c15b0 : decide (0 ≤ x24_2) = true := decide_eq_true c15
        clear c15
        by_cases c16 : x24_2 < (l1.length : Int)
        ·rw [if_pos c16] at H
         have c16b0 : decide (x24_2 < (l1.length : Int)) = true := decide_eq_true c16
         clear c16
         by_cases c17 : x24_2 < (x6_2.length : Int)
         ·rw [if_pos c17] at H
          have c17b0 : decide (x24_2 < (x6_2.length : Int)) = true := decide_eq_true c17
          clear c17
          replace H := Option.bind_eq_some_iff.mp H
          obtain ⟨⟨t325, t328⟩, A180, H⟩ := H
          replace H : (if t328 = true then (if x6_2.length < 5864062014805 then (impl_versions.l0 k2 (x6_2 ++ [t325]) l1 (l1.length : Int) (wrap64 (x24_2 + 1))) else (none)) else (some (([] : List (List (S26))), false))) = some (r1, r2) := H
          have A18 := Aside0.mk A180
          clear A180
          rcases Bool.eq_false_or_eq_true t328 with rfl | rfl
          ·replace H := iT rfl H
           by_cases c20 : x6_2.length < 5864062014805
           ·rw [if_pos c20] at H
            have LMc20 := Aside0.mk c20
            clear c20
            obtain ⟨y329, hy329⟩ : ∃ y_ : List (List (S26)), y_ = (x6_2 ++ [t325]) := ⟨_, rfl⟩
            replace H : (impl_versions.l0 k2 y329 l1 (l1.length : Int) (wrap64 (x24_2 + 1))) = some (r1, r2) := by first | (rw [hy329]; with_reducible exact H) | (have H2_ := (Option.bind_some _ _).symm.trans H; rw [hy329]; with_reducible exact H2_) | (have H2_ := (Option.bind_some _ _).symm.trans H; with_reducible exact H2_) | with_reducible exact H | (rw [hy329]; exact H) | exact H
            have Ny329 := Aside0.mk hy329
            clear hy329
            have H' := Aside0.mk H
            clear H
            have p322 : 0 ≤ (x24_2 : Int) := of_decide_eq_true asmB
            have q322 : x24_2 < (l1.length : Int) := of_decide_eq_true asmB
            obtain ⟨ad322, e322, hx322_0, hx322_1, hx322_2, hx322_3, hx322_4, hx322_5, hx322_6, hx322_7, hx322_8, hx322_9, hx322_10, hx322_11⟩ := at_T28 HR1.out x24_2 p322 q322
            cases e322
            replace hx322_0 := bx HB.out hx322_0
            replace hx322_1 := bx HB.out hx322_1
            replace hx322_2 := bx HB.out hx322_2
            replace hx322_3 := bx HB.out hx322_3
            replace hx322_4 := bx HB.out hx322_4
            replace hx322_5 := bx HB.out hx322_5
            replace hx322_6 := bx HB.out hx322_6
            replace hx322_7 := bx HB.out hx322_7
            replace hx322_8 := bx HB.out hx322_8
            replace hx322_9 := bx HB.out hx322_9
            replace hx322_10 := bx HB.out hx322_10
            replace hx322_11 := bx HB.out hx322_11
            replace p322 := eq_true p322
            replace q322 := eq_true q322
            try go_wp2_with (first | ((with_reducible refine gD 8 ?_); (try (refine gate_guard (by rfl) ?_; dsimp only)); refine bxE 8 28 #[.int .i64 0, .int .i64 0, .int .i64 0, .int .i64 0, .int .i64 0, .int .i64 0, .int .i64 0, .int .i64 0, .int .i64 0, .int .i64 0, .int .i64 0, .int .i64 0] fun gb323 w21 hg hbox hb => ?_; have BK323 := Aside0.mk hbox; have GE323 := gB HB hg; replace HO_6 := Aside0.mk (Kd.N_below (Kd.N_elderB (by (with_reducible repeat (first | apply Kd.N_alloc | apply Kd.N_drewN | apply Kd.N_drew)); exact HO_6.out) gb323 (Nat.le_of_eq hg.symm)) hb); replace HB := uB HB hb; clear hb hbox hg; have ⟨hcz22_0, hcz22_1, hcz22_2, hcz22_3, hcz22_4, hcz22_5, hcz22_6, hcz22_7, hcz22_8, hcz22_9, hcz22_10, hcz22_11, hfz22_0⟩ := cz12 BK323))
            have n0_ : Aside0 (Kd.N (Kd.slice 26 k26) 39 ((((((((((((w21.setCell ⟨gb323, 0, none⟩ (.int .i64 ((rd_T28 l1 x24_2).f0))).setCell ⟨gb323, 1, none⟩ (.int .i64 ((rd_T28 l1 x24_2).f1))).setCell ⟨gb323, 2, none⟩ (.int .i64 ((rd_T28 l1 x24_2).f2.f0))).setCell ⟨gb323, 3, none⟩ (.int .i64 ((rd_T28 l1 x24_2).f2.f1))).setCell ⟨gb323, 4, none⟩ (.int .i64 ((rd_T28 l1 x24_2).f2.f2))).setCell ⟨gb323, 5, none⟩ (.int .i64 ((rd_T28 l1 x24_2).f2.f3))).setCell ⟨gb323, 6, none⟩ (.int .i64 ((rd_T28 l1 x24_2).f2.f4))).setCell ⟨gb323, 7, none⟩ (.int .i64 ((rd_T28 l1 x24_2).f3.f0))).setCell ⟨gb323, 8, none⟩ (.int .i64 ((rd_T28 l1 x24_2).f3.f1))).setCell ⟨gb323, 9, none⟩ (.int .i64 ((rd_T28 l1 x24_2).f3.f2))).setCell ⟨gb323, 10, none⟩ (.int .i64 ((rd_T28 l1 x24_2).f3.f3))).setCell ⟨gb323, 11, none⟩ (.int .i64 ((rd_T28 l1 x24_2).f3.f4))) w.heap.size (fun k_ => (w.heap.size ≤ k_) ∧ k_ ≠ gb323) u6 x6_2) := ⟨by (with_reducible repeat (first | apply Kd.N_alloc | apply Kd.N_drewN | apply Kd.N_drew)); exact Kd.N_mono (Kd.N_far (p := ⟨gb323, 11, none⟩) (Kd.N_far (p := ⟨gb323, 10, none⟩) (Kd.N_far (p := ⟨gb323, 9, none⟩) (Kd.N_far (p := ⟨gb323, 8, none⟩) (Kd.N_far (p := ⟨gb323, 7, none⟩) (Kd.N_far (p := ⟨gb323, 6, none⟩) (Kd.N_far (p := ⟨gb323, 5, none⟩) (Kd.N_far (p := ⟨gb323, 4, none⟩) (Kd.N_far (p := ⟨gb323, 3, none⟩) (Kd.N_far (p := ⟨gb323, 2, none⟩) (Kd.N_far (p := ⟨gb323, 1, none⟩) (Kd.N_far (p := ⟨gb323, 0, none⟩) (Kd.N_mono HO_6.out (fun k_ hk => (⟨hk, hk.2⟩ : _ ∧ k_ ≠ gb323))) (fun _ hk => hk.2) (.int .i64 ((rd_T28 l1 x24_2).f0))) (fun _ hk => hk.2) (.int .i64 ((rd_T28 l1 x24_2).f1))) (fun _ hk => hk.2) (.int .i64 ((rd_T28 l1 x24_2).f2.f0))) (fun _ hk => hk.2) (.int .i64 ((rd_T28 l1 x24_2).f2.f1))) (fun _ hk => hk.2) (.int .i64 ((rd_T28 l1 x24_2).f2.f2))) (fun _ hk => hk.2) (.int .i64 ((rd_T28 l1 x24_2).f2.f3))) (fun _ hk => hk.2) (.int .i64 ((rd_T28 l1 x24_2).f2.f4))) (fun _ hk => hk.2) (.int .i64 ((rd_T28 l1 x24_2).f3.f0))) (fun _ hk => hk.2) (.int .i64 ((rd_T28 l1 x24_2).f3.f1))) (fun _ hk => hk.2) (.int .i64 ((rd_T28 l1 x24_2).f3.f2))) (fun _ hk => hk.2) (.int .i64 ((rd_T28 l1 x24_2).f3.f3))) (fun _ hk => hk.2) (.int .i64 ((rd_T28 l1 x24_2).f3.f4))) (fun _ hk => ⟨hk.1.1, hk.1.2⟩)⟩
            have n1_ : Aside0 (((((((((((((w21.setCell ⟨gb323, 0, none⟩ (.int .i64 ((rd_T28 l1 x24_2).f0))).setCell ⟨gb323, 1, none⟩ (.int .i64 ((rd_T28 l1 x24_2).f1))).setCell ⟨gb323, 2, none⟩ (.int .i64 ((rd_T28 l1 x24_2).f2.f0))).setCell ⟨gb323, 3, none⟩ (.int .i64 ((rd_T28 l1 x24_2).f2.f1))).setCell ⟨gb323, 4, none⟩ (.int .i64 ((rd_T28 l1 x24_2).f2.f2))).setCell ⟨gb323, 5, none⟩ (.int .i64 ((rd_T28 l1 x24_2).f2.f3))).setCell ⟨gb323, 6, none⟩ (.int .i64 ((rd_T28 l1 x24_2).f2.f4))).setCell ⟨gb323, 7, none⟩ (.int .i64 ((rd_T28 l1 x24_2).f3.f0))).setCell ⟨gb323, 8, none⟩ (.int .i64 ((rd_T28 l1 x24_2).f3.f1))).setCell ⟨gb323, 9, none⟩ (.int .i64 ((rd_T28 l1 x24_2).f3.f2))).setCell ⟨gb323, 10, none⟩ (.int .i64 ((rd_T28 l1 x24_2).f3.f3))).setCell ⟨gb323, 11, none⟩ (.int .i64 ((rd_T28 l1 x24_2).f3.f4))).heap[gb323]? = some (.cells #[.int .i64 ((rd_T28 l1 x24_2).f0), .int .i64 ((rd_T28 l1 x24_2).f1), .int .i64 ((rd_T28 l1 x24_2).f2.f0), .int .i64 ((rd_T28 l1 x24_2).f2.f1), .int .i64 ((rd_T28 l1 x24_2).f2.f2), .int .i64 ((rd_T28 l1 x24_2).f2.f3), .int .i64 ((rd_T28 l1 x24_2).f2.f4), .int .i64 ((rd_T28 l1 x24_2).f3.f0), .int .i64 ((rd_T28 l1 x24_2).f3.f1), .int .i64 ((rd_T28 l1 x24_2).f3.f2), .int .i64 ((rd_T28 l1 x24_2).f3.f3), .int .i64 ((rd_T28 l1 x24_2).f3.f4)] 28 (0, 0))) := ⟨by exact pW BK323⟩
            have n2_ : Aside0 (Below w.heap.size w ((((((((((((w21.setCell ⟨gb323, 0, none⟩ (.int .i64 ((rd_T28 l1 x24_2).f0))).setCell ⟨gb323, 1, none⟩ (.int .i64 ((rd_T28 l1 x24_2).f1))).setCell ⟨gb323, 2, none⟩ (.int .i64 ((rd_T28 l1 x24_2).f2.f0))).setCell ⟨gb323, 3, none⟩ (.int .i64 ((rd_T28 l1 x24_2).f2.f1))).setCell ⟨gb323, 4, none⟩ (.int .i64 ((rd_T28 l1 x24_2).f2.f2))).setCell ⟨gb323, 5, none⟩ (.int .i64 ((rd_T28 l1 x24_2).f2.f3))).setCell ⟨gb323, 6, none⟩ (.int .i64 ((rd_T28 l1 x24_2).f2.f4))).setCell ⟨gb323, 7, none⟩ (.int .i64 ((rd_T28 l1 x24_2).f3.f0))).setCell ⟨gb323, 8, none⟩ (.int .i64 ((rd_T28 l1 x24_2).f3.f1))).setCell ⟨gb323, 9, none⟩ (.int .i64 ((rd_T28 l1 x24_2).f3.f2))).setCell ⟨gb323, 10, none⟩ (.int .i64 ((rd_T28 l1 x24_2).f3.f3))).setCell ⟨gb323, 11, none⟩ (.int .i64 ((rd_T28 l1 x24_2).f3.f4)))) := (aB HB)
            (try clear HO_6)
            (try clear BK323)
            (try clear HB)
            generalize ((((((((((((w21.setCell ⟨gb323, 0, none⟩ (.int .i64 ((rd_T28 l1 x24_2).f0))).setCell ⟨gb323, 1, none⟩ (.int .i64 ((rd_T28 l1 x24_2).f1))).setCell ⟨gb323, 2, none⟩ (.int .i64 ((rd_T28 l1 x24_2).f2.f0))).setCell ⟨gb323, 3, none⟩ (.int .i64 ((rd_T28 l1 x24_2).f2.f1))).setCell ⟨gb323, 4, none⟩ (.int .i64 ((rd_T28 l1 x24_2).f2.f2))).setCell ⟨gb323, 5, none⟩ (.int .i64 ((rd_T28 l1 x24_2).f2.f3))).setCell ⟨gb323, 6, none⟩ (.int .i64 ((rd_T28 l1 x24_2).f2.f4))).setCell ⟨gb323, 7, none⟩ (.int .i64 ((rd_T28 l1 x24_2).f3.f0))).setCell ⟨gb323, 8, none⟩ (.int .i64 ((rd_T28 l1 x24_2).f3.f1))).setCell ⟨gb323, 9, none⟩ (.int .i64 ((rd_T28 l1 x24_2).f3.f2))).setCell ⟨gb323, 10, none⟩ (.int .i64 ((rd_T28 l1 x24_2).f3.f3))).setCell ⟨gb323, 11, none⟩ (.int .i64 ((rd_T28 l1 x24_2).f3.f4))) = w23 at n0_ n1_ n2_ ⊢
            have HO_6 := n0_
            have BK323 := n1_
            have HB := n2_
            clear n0_ n1_ n2_
            replace HO_6 := Aside0.mk (Kd.N_drew HO_6.out)
            replace BK323 := dK BK323
            replace HB := Aside0.mk (below_drew1 HB.out)
            obtain ⟨Ao25, co25, eo25⟩ := Kd.N_slice HO_6.out
            (first | subst eo25 | (injection eo25 with f1_ f2_ f3_; have f4_ := f1_.symm; have f5_ := f3_.symm; clear f1_ f2_ f3_; subst f4_; subst f5_))
            have p324 : 0 ≤ (x24_2 : Int) := of_decide_eq_true asmB
            have q324 : x24_2 < (x6_2.length : Int) := of_decide_eq_true asmB
            obtain ⟨ad324, A324_0, c324_0, e324, hx324_0, hl324_0, hi324_0⟩ := at_L6 (Kd.N_reads' HO_6.out).2.2 x24_2 p324 q324
            cases e324
            obtain ⟨ce324, hce324, hMe324, hcc324⟩ := Kd.N_get HO_6.out [] x24_2 p324 (by first | exact q324 | exact of_decide_eq_true asmB | (have e_ := (Kd.N_reads' HO_6.out).1; omega))
            obtain ⟨ua324_0, uc324_0, rfl, ul324_0, ge324_0⟩ := Kd.FK_slice_open hMe324
            have hv324_0 := hcc324 0 _ rfl
            rw [Nat.add_zero, show ((Kd.slice 26 k26)).sz = 1 from rfl, Nat.mul_one] at hv324_0
            replace hv324_0 := Option.some.inj (hv324_0.symm.trans hx324_0)
            injection hv324_0 with hva_ hvn_ hvc_
            rw [hva_] at ge324_0
            rw [hvc_] at ul324_0
            have HL324_0 := Aside0.mk (show Kd.V k26 26 _ w.heap.size _ _ (rd_L6 x6_2 x24_2) from Kd.V_mk ul324_0 ge324_0)
            clear hva_ hvn_ hvc_ ge324_0 ul324_0
            clear hcc324 hce324
            have HR324_0 := Aside0.mk hi324_0
            have HC324_0 := Aside0.mk hl324_0
            clear hi324_0 hl324_0
            replace p324 := eq_true p324
            replace q324 := eq_true q324
            refine sA (n := 11) (S := fun w' => w'.cell? ⟨gb323, 0, none⟩ = some (.int .i64 ((rd_T28 l1 x24_2).f0)) ∧ w'.cell? ⟨gb323, 1, none⟩ = some (.int .i64 ((rd_T28 l1 x24_2).f1)) ∧ w'.cell? ⟨gb323, 2, none⟩ = some (.int .i64 ((rd_T28 l1 x24_2).f2.f0)) ∧ w'.cell? ⟨gb323, 3, none⟩ = some (.int .i64 ((rd_T28 l1 x24_2).f2.f1)) ∧ w'.cell? ⟨gb323, 4, none⟩ = some (.int .i64 ((rd_T28 l1 x24_2).f2.f2)) ∧ w'.cell? ⟨gb323, 5, none⟩ = some (.int .i64 ((rd_T28 l1 x24_2).f2.f3)) ∧ w'.cell? ⟨gb323, 6, none⟩ = some (.int .i64 ((rd_T28 l1 x24_2).f2.f4)) ∧ w'.cell? ⟨gb323, 7, none⟩ = some (.int .i64 ((rd_T28 l1 x24_2).f3.f0)) ∧ w'.cell? ⟨gb323, 8, none⟩ = some (.int .i64 ((rd_T28 l1 x24_2).f3.f1)) ∧ w'.cell? ⟨gb323, 9, none⟩ = some (.int .i64 ((rd_T28 l1 x24_2).f3.f2)) ∧ w'.cell? ⟨gb323, 10, none⟩ = some (.int .i64 ((rd_T28 l1 x24_2).f3.f3)) ∧ w'.cell? ⟨gb323, 11, none⟩ = some (.int .i64 ((rd_T28 l1 x24_2).f3.f4)) ∧ w'.cell? (ad324.add (x24_2).toNat) = some (.slice A324_0 (rd_L6 x6_2 x24_2).length c324_0)) (ds := []) impl_versions.tab7 impl_versions.bits7 #[false, false, false, false, false, false, false, false, false, false, false] ⟨cb BK323 0, cb BK323 1, cb BK323 2, cb BK323 3, cb BK323 4, cb BK323 5, cb BK323 6, cb BK323 7, cb BK323 8, cb BK323 9, cb BK323 10, cb BK323 11, hx324_0⟩ fun hHeld HT_ HW_ => ?_
            generalize w23.drew = w24 at HO_6 BK323 HB HL324_0 HR324_0 hx324_0 hHeld ⊢
            refine pA 0 30 HT_ ?_
            refine pA 1 31 HT_ ?_
            refine pA 2 32 HT_ ?_
            refine tA 3 33 HT_ HW_ hHeld ?_
            refine tA 4 34 HT_ HW_ hHeld ?_
            refine oA 5 (some 35) HT_ fun K hK => ?_
            refine goes_ Try.func67 (by kernel_rfl) rfl #[.slice A324_0 (rd_L6 x6_2 x24_2).length c324_0, .agg #[.int .i64 ((rd_T28 l1 x24_2).f0), .int .i64 ((rd_T28 l1 x24_2).f1), .int .i64 ((rd_T28 l1 x24_2).f2.f0), .int .i64 ((rd_T28 l1 x24_2).f2.f1), .int .i64 ((rd_T28 l1 x24_2).f2.f2), .int .i64 ((rd_T28 l1 x24_2).f2.f3), .int .i64 ((rd_T28 l1 x24_2).f2.f4), .int .i64 ((rd_T28 l1 x24_2).f3.f0), .int .i64 ((rd_T28 l1 x24_2).f3.f1), .int .i64 ((rd_T28 l1 x24_2).f3.f2), .int .i64 ((rd_T28 l1 x24_2).f3.f3), .int .i64 ((rd_T28 l1 x24_2).f3.f4)]] (by rfl) rfl rfl argsB ?_
            with_reducible refine (impl_apply.calls k2 _ _ (rd_L6 x6_2 x24_2) ((rd_T28 l1 x24_2).f0) ((rd_T28 l1 x24_2).f1) ((rd_T28 l1 x24_2).f2.f0) ((rd_T28 l1 x24_2).f2.f1) ((rd_T28 l1 x24_2).f2.f2) ((rd_T28 l1 x24_2).f2.f3) ((rd_T28 l1 x24_2).f2.f4) ((rd_T28 l1 x24_2).f3.f0) ((rd_T28 l1 x24_2).f3.f1) ((rd_T28 l1 x24_2).f3.f2) ((rd_T28 l1 x24_2).f3.f3) ((rd_T28 l1 x24_2).f3.f4) t325 true _ ?side1 ?side2 A18.out).mono ?_
            (case side1 => repeat (first | exact (by repeat (first | (with_reducible exact HR324_0.out) | (with_reducible refine Kd.C_alloc ?_ _) | (with_reducible refine Kd.C_drewN ?_ _) | (with_reducible refine Kd.C_drew ?_) | exact HR324_0.out)) | (with_reducible refine Kd.C_alloc ?_ _) | (with_reducible refine Kd.C_drewN ?_ _) | (with_reducible refine Kd.C_drew ?_)))
            (case side2 => exact HC324_0.out)
            rintro e w26 ⟨v326, rfl, ho0, hb⟩
            have HS12_ := (hb.cell (World.block_lt_of_cell? _ _ (hHeld.2.2.2.2.2.2.2.2.2.2.2.2))).trans (hHeld.2.2.2.2.2.2.2.2.2.2.2.2)
            refine ⟨_, rfl, ?_⟩
            have HO327 := Aside0.mk (Kd.R_lower (Kd.R_newM (M := fun k_ => (w.heap.size ≤ k_)) ho0 (below_size (bW HB)) (fun k_ h_ => h_)) (below_size (bW HB)))
            replace HO_6 := Aside0.mk (Kd.N_elder' (by (with_reducible repeat (first | apply Kd.N_alloc | apply Kd.N_drewN | apply Kd.N_drew)); exact HO_6.out) (Kd.R_base ho0) hb)
            replace HL324_0 := Aside0.mk (Kd.V_elder' (by (with_reducible repeat (first | apply Kd.V_alloc | apply Kd.V_drewN | apply Kd.V_drew)); exact HL324_0.out) (Kd.R_base ho0) hb)
            replace BK323 := uK BK323 hb
            replace HR324_0 := Aside0.mk (Kd.C_below (by repeat (first | (with_reducible exact HR324_0.out) | (with_reducible refine Kd.C_alloc ?_ _) | (with_reducible refine Kd.C_drewN ?_ _) | (with_reducible refine Kd.C_drew ?_) | exact HR324_0.out)) hb)
            replace HB := uB HB hb
            (try clear hb)
            (try clear hk)
            (try clear ho0)
            refine hK.out _ _ ⟨cb BK323 0, cb BK323 1, cb BK323 2, cb BK323 3, cb BK323 4, cb BK323 5, cb BK323 6, cb BK323 7, cb BK323 8, cb BK323 9, cb BK323 10, cb BK323 11, HS12_⟩ (fun hHeld => ?_)
            clear hK K
            refine nA ?_ (some 35)
            refine pA 6 29 HT_ ?_
            refine pA 7 36 HT_ ?_
            refine pA 8 37 HT_ ?_
            refine pA 9 9 HT_ ?_
            refine pA 10 10 HT_ ?_
            refine done_ (done_of HT_.out (by kernel_rfl)) ?_
            obtain ⟨Ao28, co28, eo28⟩ := Kd.R_slice HO327.out
            subst eo28
            try go_wp2_with (first | ((with_reducible refine gate_builtin (b := .append) (xs := #[.tmp 40, .tmp 42]) rfl ?_); (try (refine gate_guard (by rfl) ?_; dsimp only)); at_builtin; refine Kd.N_append (Kd.slice 26 k26) (w0 := w) w.heap.size rfl (.tmp 40) (.tmp 42) 84 39 (.slice none 0 0) 24 rfl Try.underlying84 info39 rfl (by decide) (by omega) (.slice (some ad324) x6_2.length co25) x6_2 t325 [.slice Ao28 t325.length co28] (fun k_ => (w.heap.size ≤ k_) ∧ k_ ≠ gb323) (fun k_ => ((fun k_ => (w.heap.size ≤ k_) ∧ k_ ≠ gb323)) k_ ∧ some k_ ≠ (.slice (some ad324) x6_2.length co25 : Value).ownBlock) rfl rfl ?aP (fun _ hk => hk) ?aF ?aO ?aB ?aS ?aL ?_; (case aP => exact (Kd.FK_slice_mk (Kd.R_reads' (Kd.R_mono (ok' := (fun k_ => ((fun k_ => (w.heap.size ≤ k_) ∧ k_ ≠ gb323)) k_ ∧ some k_ ≠ (.slice (some ad324) x6_2.length co25 : Value).ownBlock)) (Kd.R_types (Kd.R_apart' (HO327.out) (Kd.N_typed HO_6.out) (by decide)) BK323.out (by decide)) (fun k_ hk => ⟨⟨hk.1.1.1, hk.2⟩, hk.1.2⟩))).2.1 (Kd.R_F (Kd.R_mono (ok' := (fun k_ => ((fun k_ => (w.heap.size ≤ k_) ∧ k_ ≠ gb323)) k_ ∧ some k_ ≠ (.slice (some ad324) x6_2.length co25 : Value).ownBlock)) (Kd.R_types (Kd.R_apart' (HO327.out) (Kd.N_typed HO_6.out) (by decide)) BK323.out (by decide)) (fun k_ hk => ⟨⟨hk.1.1.1, hk.2⟩, hk.1.2⟩))))); (case aB => exact (bW HB)); (case aF => exact (fun k_ hk => ⟨(Nat.le_trans (below_size (bW HB)) hk), Kd.freshB (g := gb323) (o := .cells #[.int .i64 ((rd_T28 l1 x24_2).f0), .int .i64 ((rd_T28 l1 x24_2).f1), .int .i64 ((rd_T28 l1 x24_2).f2.f0), .int .i64 ((rd_T28 l1 x24_2).f2.f1), .int .i64 ((rd_T28 l1 x24_2).f2.f2), .int .i64 ((rd_T28 l1 x24_2).f2.f3), .int .i64 ((rd_T28 l1 x24_2).f2.f4), .int .i64 ((rd_T28 l1 x24_2).f3.f0), .int .i64 ((rd_T28 l1 x24_2).f3.f1), .int .i64 ((rd_T28 l1 x24_2).f3.f2), .int .i64 ((rd_T28 l1 x24_2).f3.f3), .int .i64 ((rd_T28 l1 x24_2).f3.f4)] 28 (0, 0)) (upK BK323.out) k_ hk⟩)); (case aO => exact (by (with_reducible repeat (first | apply Kd.N_alloc | apply Kd.N_drewN | apply Kd.N_drew)); exact Kd.N_mono HO_6.out (fun _ hk => ⟨hk.1.1, hk.1.2⟩))); (case aS => exact (below_size (bW HB))); (case aL => have := LMc20.out; omega); intro v330 w27 ho hb hg hat; rw [← Ny329.out] at ho; have HO331 := Aside0.mk (ho); replace BK323 := Aside0.mk (blk_grown (g := gb323) (o := .cells #[.int .i64 ((rd_T28 l1 x24_2).f0), .int .i64 ((rd_T28 l1 x24_2).f1), .int .i64 ((rd_T28 l1 x24_2).f2.f0), .int .i64 ((rd_T28 l1 x24_2).f2.f1), .int .i64 ((rd_T28 l1 x24_2).f2.f2), .int .i64 ((rd_T28 l1 x24_2).f2.f3), .int .i64 ((rd_T28 l1 x24_2).f2.f4), .int .i64 ((rd_T28 l1 x24_2).f3.f0), .int .i64 ((rd_T28 l1 x24_2).f3.f1), .int .i64 ((rd_T28 l1 x24_2).f3.f2), .int .i64 ((rd_T28 l1 x24_2).f3.f3), .int .i64 ((rd_T28 l1 x24_2).f3.f4)] 28 (0, 0)) (upK BK323.out) hg (Kd.N_ne HO_6.out BK323.out (by decide))); replace HL324_0 := Aside0.mk (Kd.V_afterv (ok := (fun k_ => (w.heap.size ≤ k_) ∧ some k_ ≠ (.slice Ao28 t325.length co28 : Value).ownBlock ∧ k_ ≠ gb323)) (by (with_reducible repeat (first | apply Kd.V_alloc | apply Kd.V_drewN | apply Kd.V_drew)); exact Kd.V_mono HL324_0.out (fun _ hk => ⟨⟨hk.1.1.1, ⟨hk.2, hk.1.1.2⟩⟩, hk.1.2⟩)) hg hat); replace HB := Aside0.mk (hb); clear HO_6 HO327; clear ho hb hg hat))
            go_roundg k2
            case measure => have := HJ2.out; have := HK2.out; omega
            case rel => exact ⟨(y329), (wrap64 (x24_2 + 1)), rB, H', ⟨by have := HJ2.out; have := HK2.out; omega⟩, ⟨by (with_reducible repeat (first | apply Kd.N_alloc | apply Kd.N_drewN | apply Kd.N_drew)); exact Kd.N_mono HO331.out (fun _ hk => hk.1)⟩, (aB HB)⟩
           ·rw [if_neg c20] at H
            exact absurd H (by simp)
          ·replace H := iF (by decide) H
           simp only [Option.some.injEq, Prod.mk.injEq] at H
           obtain ⟨rfl, rfl⟩ := H
           have p322 : 0 ≤ (x24_2 : Int) := of_decide_eq_true asmB
           have q322 : x24_2 < (l1.length : Int) := of_decide_eq_true asmB
           obtain ⟨ad322, e322, hx322_0, hx322_1, hx322_2, hx322_3, hx322_4, hx322_5, hx322_6, hx322_7, hx322_8, hx322_9, hx322_10, hx322_11⟩ := at_T28 HR1.out x24_2 p322 q322
           cases e322
           replace hx322_0 := bx HB.out hx322_0
           replace hx322_1 := bx HB.out hx322_1
           replace hx322_2 := bx HB.out hx322_2
           replace hx322_3 := bx HB.out hx322_3
           replace hx322_4 := bx HB.out hx322_4
           replace hx322_5 := bx HB.out hx322_5
           replace hx322_6 := bx HB.out hx322_6
           replace hx322_7 := bx HB.out hx322_7
           replace hx322_8 := bx HB.out hx322_8
           replace hx322_9 := bx HB.out hx322_9
           replace hx322_10 := bx HB.out hx322_10
           replace hx322_11 := bx HB.out hx322_11
           replace p322 := eq_true p322
           replace q322 := eq_true q322
           try go_wp2_with (first | ((with_reducible refine gD 8 ?_); (try (refine gate_guard (by rfl) ?_; dsimp only)); refine bxE 8 28 #[.int .i64 0, .int .i64 0, .int .i64 0, .int .i64 0, .int .i64 0, .int .i64 0, .int .i64 0, .int .i64 0, .int .i64 0, .int .i64 0, .int .i64 0, .int .i64 0] fun gb323 w29 hg hbox hb => ?_; have BK323 := Aside0.mk hbox; have GE323 := gB HB hg; replace HO_6 := Aside0.mk (Kd.N_below (Kd.N_elderB (by (with_reducible repeat (first | apply Kd.N_alloc | apply Kd.N_drewN | apply Kd.N_drew)); exact HO_6.out) gb323 (Nat.le_of_eq hg.symm)) hb); replace HB := uB HB hb; clear hb hbox hg; have ⟨hcz30_0, hcz30_1, hcz30_2, hcz30_3, hcz30_4, hcz30_5, hcz30_6, hcz30_7, hcz30_8, hcz30_9, hcz30_10, hcz30_11, hfz30_0⟩ := cz12 BK323))
           have n0_ : Aside0 (Kd.N (Kd.slice 26 k26) 39 ((((((((((((w29.setCell ⟨gb323, 0, none⟩ (.int .i64 ((rd_T28 l1 x24_2).f0))).setCell ⟨gb323, 1, none⟩ (.int .i64 ((rd_T28 l1 x24_2).f1))).setCell ⟨gb323, 2, none⟩ (.int .i64 ((rd_T28 l1 x24_2).f2.f0))).setCell ⟨gb323, 3, none⟩ (.int .i64 ((rd_T28 l1 x24_2).f2.f1))).setCell ⟨gb323, 4, none⟩ (.int .i64 ((rd_T28 l1 x24_2).f2.f2))).setCell ⟨gb323, 5, none⟩ (.int .i64 ((rd_T28 l1 x24_2).f2.f3))).setCell ⟨gb323, 6, none⟩ (.int .i64 ((rd_T28 l1 x24_2).f2.f4))).setCell ⟨gb323, 7, none⟩ (.int .i64 ((rd_T28 l1 x24_2).f3.f0))).setCell ⟨gb323, 8, none⟩ (.int .i64 ((rd_T28 l1 x24_2).f3.f1))).setCell ⟨gb323, 9, none⟩ (.int .i64 ((rd_T28 l1 x24_2).f3.f2))).setCell ⟨gb323, 10, none⟩ (.int .i64 ((rd_T28 l1 x24_2).f3.f3))).setCell ⟨gb323, 11, none⟩ (.int .i64 ((rd_T28 l1 x24_2).f3.f4))) w.heap.size (fun k_ => (w.heap.size ≤ k_) ∧ k_ ≠ gb323) u6 x6_2) := ⟨by (with_reducible repeat (first | apply Kd.N_alloc | apply Kd.N_drewN | apply Kd.N_drew)); exact Kd.N_mono (Kd.N_far (p := ⟨gb323, 11, none⟩) (Kd.N_far (p := ⟨gb323, 10, none⟩) (Kd.N_far (p := ⟨gb323, 9, none⟩) (Kd.N_far (p := ⟨gb323, 8, none⟩) (Kd.N_far (p := ⟨gb323, 7, none⟩) (Kd.N_far (p := ⟨gb323, 6, none⟩) (Kd.N_far (p := ⟨gb323, 5, none⟩) (Kd.N_far (p := ⟨gb323, 4, none⟩) (Kd.N_far (p := ⟨gb323, 3, none⟩) (Kd.N_far (p := ⟨gb323, 2, none⟩) (Kd.N_far (p := ⟨gb323, 1, none⟩) (Kd.N_far (p := ⟨gb323, 0, none⟩) (Kd.N_mono HO_6.out (fun k_ hk => (⟨hk, hk.2⟩ : _ ∧ k_ ≠ gb323))) (fun _ hk => hk.2) (.int .i64 ((rd_T28 l1 x24_2).f0))) (fun _ hk => hk.2) (.int .i64 ((rd_T28 l1 x24_2).f1))) (fun _ hk => hk.2) (.int .i64 ((rd_T28 l1 x24_2).f2.f0))) (fun _ hk => hk.2) (.int .i64 ((rd_T28 l1 x24_2).f2.f1))) (fun _ hk => hk.2) (.int .i64 ((rd_T28 l1 x24_2).f2.f2))) (fun _ hk => hk.2) (.int .i64 ((rd_T28 l1 x24_2).f2.f3))) (fun _ hk => hk.2) (.int .i64 ((rd_T28 l1 x24_2).f2.f4))) (fun _ hk => hk.2) (.int .i64 ((rd_T28 l1 x24_2).f3.f0))) (fun _ hk => hk.2) (.int .i64 ((rd_T28 l1 x24_2).f3.f1))) (fun _ hk => hk.2) (.int .i64 ((rd_T28 l1 x24_2).f3.f2))) (fun _ hk => hk.2) (.int .i64 ((rd_T28 l1 x24_2).f3.f3))) (fun _ hk => hk.2) (.int .i64 ((rd_T28 l1 x24_2).f3.f4))) (fun _ hk => ⟨hk.1.1, hk.1.2⟩)⟩
           have n1_ : Aside0 (((((((((((((w29.setCell ⟨gb323, 0, none⟩ (.int .i64 ((rd_T28 l1 x24_2).f0))).setCell ⟨gb323, 1, none⟩ (.int .i64 ((rd_T28 l1 x24_2).f1))).setCell ⟨gb323, 2, none⟩ (.int .i64 ((rd_T28 l1 x24_2).f2.f0))).setCell ⟨gb323, 3, none⟩ (.int .i64 ((rd_T28 l1 x24_2).f2.f1))).setCell ⟨gb323, 4, none⟩ (.int .i64 ((rd_T28 l1 x24_2).f2.f2))).setCell ⟨gb323, 5, none⟩ (.int .i64 ((rd_T28 l1 x24_2).f2.f3))).setCell ⟨gb323, 6, none⟩ (.int .i64 ((rd_T28 l1 x24_2).f2.f4))).setCell ⟨gb323, 7, none⟩ (.int .i64 ((rd_T28 l1 x24_2).f3.f0))).setCell ⟨gb323, 8, none⟩ (.int .i64 ((rd_T28 l1 x24_2).f3.f1))).setCell ⟨gb323, 9, none⟩ (.int .i64 ((rd_T28 l1 x24_2).f3.f2))).setCell ⟨gb323, 10, none⟩ (.int .i64 ((rd_T28 l1 x24_2).f3.f3))).setCell ⟨gb323, 11, none⟩ (.int .i64 ((rd_T28 l1 x24_2).f3.f4))).heap[gb323]? = some (.cells #[.int .i64 ((rd_T28 l1 x24_2).f0), .int .i64 ((rd_T28 l1 x24_2).f1), .int .i64 ((rd_T28 l1 x24_2).f2.f0), .int .i64 ((rd_T28 l1 x24_2).f2.f1), .int .i64 ((rd_T28 l1 x24_2).f2.f2), .int .i64 ((rd_T28 l1 x24_2).f2.f3), .int .i64 ((rd_T28 l1 x24_2).f2.f4), .int .i64 ((rd_T28 l1 x24_2).f3.f0), .int .i64 ((rd_T28 l1 x24_2).f3.f1), .int .i64 ((rd_T28 l1 x24_2).f3.f2), .int .i64 ((rd_T28 l1 x24_2).f3.f3), .int .i64 ((rd_T28 l1 x24_2).f3.f4)] 28 (0, 0))) := ⟨by exact pW BK323⟩
           have n2_ : Aside0 (Below w.heap.size w ((((((((((((w29.setCell ⟨gb323, 0, none⟩ (.int .i64 ((rd_T28 l1 x24_2).f0))).setCell ⟨gb323, 1, none⟩ (.int .i64 ((rd_T28 l1 x24_2).f1))).setCell ⟨gb323, 2, none⟩ (.int .i64 ((rd_T28 l1 x24_2).f2.f0))).setCell ⟨gb323, 3, none⟩ (.int .i64 ((rd_T28 l1 x24_2).f2.f1))).setCell ⟨gb323, 4, none⟩ (.int .i64 ((rd_T28 l1 x24_2).f2.f2))).setCell ⟨gb323, 5, none⟩ (.int .i64 ((rd_T28 l1 x24_2).f2.f3))).setCell ⟨gb323, 6, none⟩ (.int .i64 ((rd_T28 l1 x24_2).f2.f4))).setCell ⟨gb323, 7, none⟩ (.int .i64 ((rd_T28 l1 x24_2).f3.f0))).setCell ⟨gb323, 8, none⟩ (.int .i64 ((rd_T28 l1 x24_2).f3.f1))).setCell ⟨gb323, 9, none⟩ (.int .i64 ((rd_T28 l1 x24_2).f3.f2))).setCell ⟨gb323, 10, none⟩ (.int .i64 ((rd_T28 l1 x24_2).f3.f3))).setCell ⟨gb323, 11, none⟩ (.int .i64 ((rd_T28 l1 x24_2).f3.f4)))) := (aB HB)
           (try clear HO_6)
           (try clear BK323)
           (try clear HB)
           generalize ((((((((((((w29.setCell ⟨gb323, 0, none⟩ (.int .i64 ((rd_T28 l1 x24_2).f0))).setCell ⟨gb323, 1, none⟩ (.int .i64 ((rd_T28 l1 x24_2).f1))).setCell ⟨gb323, 2, none⟩ (.int .i64 ((rd_T28 l1 x24_2).f2.f0))).setCell ⟨gb323, 3, none⟩ (.int .i64 ((rd_T28 l1 x24_2).f2.f1))).setCell ⟨gb323, 4, none⟩ (.int .i64 ((rd_T28 l1 x24_2).f2.f2))).setCell ⟨gb323, 5, none⟩ (.int .i64 ((rd_T28 l1 x24_2).f2.f3))).setCell ⟨gb323, 6, none⟩ (.int .i64 ((rd_T28 l1 x24_2).f2.f4))).setCell ⟨gb323, 7, none⟩ (.int .i64 ((rd_T28 l1 x24_2).f3.f0))).setCell ⟨gb323, 8, none⟩ (.int .i64 ((rd_T28 l1 x24_2).f3.f1))).setCell ⟨gb323, 9, none⟩ (.int .i64 ((rd_T28 l1 x24_2).f3.f2))).setCell ⟨gb323, 10, none⟩ (.int .i64 ((rd_T28 l1 x24_2).f3.f3))).setCell ⟨gb323, 11, none⟩ (.int .i64 ((rd_T28 l1 x24_2).f3.f4))) = w31 at n0_ n1_ n2_ ⊢
           have HO_6 := n0_
           have BK323 := n1_
           have HB := n2_
           clear n0_ n1_ n2_
           replace HO_6 := Aside0.mk (Kd.N_drew HO_6.out)
           replace BK323 := dK BK323
           replace HB := Aside0.mk (below_drew1 HB.out)
           obtain ⟨Ao33, co33, eo33⟩ := Kd.N_slice HO_6.out
           (first | subst eo33 | (injection eo33 with f1_ f2_ f3_; have f4_ := f1_.symm; have f5_ := f3_.symm; clear f1_ f2_ f3_; subst f4_; subst f5_))
           have p324 : 0 ≤ (x24_2 : Int) := of_decide_eq_true asmB
           have q324 : x24_2 < (x6_2.length : Int) := of_decide_eq_true asmB
           obtain ⟨ad324, A324_0, c324_0, e324, hx324_0, hl324_0, hi324_0⟩ := at_L6 (Kd.N_reads' HO_6.out).2.2 x24_2 p324 q324
           cases e324
           obtain ⟨ce324, hce324, hMe324, hcc324⟩ := Kd.N_get HO_6.out [] x24_2 p324 (by first | exact q324 | exact of_decide_eq_true asmB | (have e_ := (Kd.N_reads' HO_6.out).1; omega))
           obtain ⟨ua324_0, uc324_0, rfl, ul324_0, ge324_0⟩ := Kd.FK_slice_open hMe324
           have hv324_0 := hcc324 0 _ rfl
           rw [Nat.add_zero, show ((Kd.slice 26 k26)).sz = 1 from rfl, Nat.mul_one] at hv324_0
           replace hv324_0 := Option.some.inj (hv324_0.symm.trans hx324_0)
           injection hv324_0 with hva_ hvn_ hvc_
           rw [hva_] at ge324_0
           rw [hvc_] at ul324_0
           have HL324_0 := Aside0.mk (show Kd.V k26 26 _ w.heap.size _ _ (rd_L6 x6_2 x24_2) from Kd.V_mk ul324_0 ge324_0)
           clear hva_ hvn_ hvc_ ge324_0 ul324_0
           clear hcc324 hce324
           have HR324_0 := Aside0.mk hi324_0
           have HC324_0 := Aside0.mk hl324_0
           clear hi324_0 hl324_0
           replace p324 := eq_true p324
           replace q324 := eq_true q324
           refine sA (n := 11) (S := fun w' => w'.cell? ⟨gb323, 0, none⟩ = some (.int .i64 ((rd_T28 l1 x24_2).f0)) ∧ w'.cell? ⟨gb323, 1, none⟩ = some (.int .i64 ((rd_T28 l1 x24_2).f1)) ∧ w'.cell? ⟨gb323, 2, none⟩ = some (.int .i64 ((rd_T28 l1 x24_2).f2.f0)) ∧ w'.cell? ⟨gb323, 3, none⟩ = some (.int .i64 ((rd_T28 l1 x24_2).f2.f1)) ∧ w'.cell? ⟨gb323, 4, none⟩ = some (.int .i64 ((rd_T28 l1 x24_2).f2.f2)) ∧ w'.cell? ⟨gb323, 5, none⟩ = some (.int .i64 ((rd_T28 l1 x24_2).f2.f3)) ∧ w'.cell? ⟨gb323, 6, none⟩ = some (.int .i64 ((rd_T28 l1 x24_2).f2.f4)) ∧ w'.cell? ⟨gb323, 7, none⟩ = some (.int .i64 ((rd_T28 l1 x24_2).f3.f0)) ∧ w'.cell? ⟨gb323, 8, none⟩ = some (.int .i64 ((rd_T28 l1 x24_2).f3.f1)) ∧ w'.cell? ⟨gb323, 9, none⟩ = some (.int .i64 ((rd_T28 l1 x24_2).f3.f2)) ∧ w'.cell? ⟨gb323, 10, none⟩ = some (.int .i64 ((rd_T28 l1 x24_2).f3.f3)) ∧ w'.cell? ⟨gb323, 11, none⟩ = some (.int .i64 ((rd_T28 l1 x24_2).f3.f4)) ∧ w'.cell? (ad324.add (x24_2).toNat) = some (.slice A324_0 (rd_L6 x6_2 x24_2).length c324_0)) (ds := []) impl_versions.tab7 impl_versions.bits7 #[false, false, false, false, false, false, false, false, false, false, false] ⟨cb BK323 0, cb BK323 1, cb BK323 2, cb BK323 3, cb BK323 4, cb BK323 5, cb BK323 6, cb BK323 7, cb BK323 8, cb BK323 9, cb BK323 10, cb BK323 11, hx324_0⟩ fun hHeld HT_ HW_ => ?_
           generalize w31.drew = w32 at HO_6 BK323 HB HL324_0 HR324_0 hx324_0 hHeld ⊢
           refine pA 0 30 HT_ ?_
           refine pA 1 31 HT_ ?_
           refine pA 2 32 HT_ ?_
           refine tA 3 33 HT_ HW_ hHeld ?_
           refine tA 4 34 HT_ HW_ hHeld ?_
           refine oA 5 (some 35) HT_ fun K hK => ?_
           refine goes_ Try.func67 (by kernel_rfl) rfl #[.slice A324_0 (rd_L6 x6_2 x24_2).length c324_0, .agg #[.int .i64 ((rd_T28 l1 x24_2).f0), .int .i64 ((rd_T28 l1 x24_2).f1), .int .i64 ((rd_T28 l1 x24_2).f2.f0), .int .i64 ((rd_T28 l1 x24_2).f2.f1), .int .i64 ((rd_T28 l1 x24_2).f2.f2), .int .i64 ((rd_T28 l1 x24_2).f2.f3), .int .i64 ((rd_T28 l1 x24_2).f2.f4), .int .i64 ((rd_T28 l1 x24_2).f3.f0), .int .i64 ((rd_T28 l1 x24_2).f3.f1), .int .i64 ((rd_T28 l1 x24_2).f3.f2), .int .i64 ((rd_T28 l1 x24_2).f3.f3), .int .i64 ((rd_T28 l1 x24_2).f3.f4)]] (by rfl) rfl rfl argsB ?_
           with_reducible refine (impl_apply.calls k2 _ _ (rd_L6 x6_2 x24_2) ((rd_T28 l1 x24_2).f0) ((rd_T28 l1 x24_2).f1) ((rd_T28 l1 x24_2).f2.f0) ((rd_T28 l1 x24_2).f2.f1) ((rd_T28 l1 x24_2).f2.f2) ((rd_T28 l1 x24_2).f2.f3) ((rd_T28 l1 x24_2).f2.f4) ((rd_T28 l1 x24_2).f3.f0) ((rd_T28 l1 x24_2).f3.f1) ((rd_T28 l1 x24_2).f3.f2) ((rd_T28 l1 x24_2).f3.f3) ((rd_T28 l1 x24_2).f3.f4) t325 false _ ?side1 ?side2 A18.out).mono ?_
           (case side1 => repeat (first | exact (by repeat (first | (with_reducible exact HR324_0.out) | (with_reducible refine Kd.C_alloc ?_ _) | (with_reducible refine Kd.C_drewN ?_ _) | (with_reducible refine Kd.C_drew ?_) | exact HR324_0.out)) | (with_reducible refine Kd.C_alloc ?_ _) | (with_reducible refine Kd.C_drewN ?_ _) | (with_reducible refine Kd.C_drew ?_)))
           (case side2 => exact HC324_0.out)
           rintro e w34 ⟨v326, rfl, ho0, hb⟩
           have HS12_ := (hb.cell (World.block_lt_of_cell? _ _ (hHeld.2.2.2.2.2.2.2.2.2.2.2.2))).trans (hHeld.2.2.2.2.2.2.2.2.2.2.2.2)
           refine ⟨_, rfl, ?_⟩
           have HO327 := Aside0.mk (Kd.R_lower (Kd.R_newM (M := fun k_ => (w.heap.size ≤ k_)) ho0 (below_size (bW HB)) (fun k_ h_ => h_)) (below_size (bW HB)))
           replace HO_6 := Aside0.mk (Kd.N_elder' (by (with_reducible repeat (first | apply Kd.N_alloc | apply Kd.N_drewN | apply Kd.N_drew)); exact HO_6.out) (Kd.R_base ho0) hb)
           replace HL324_0 := Aside0.mk (Kd.V_elder' (by (with_reducible repeat (first | apply Kd.V_alloc | apply Kd.V_drewN | apply Kd.V_drew)); exact HL324_0.out) (Kd.R_base ho0) hb)
           replace BK323 := uK BK323 hb
           replace HR324_0 := Aside0.mk (Kd.C_below (by repeat (first | (with_reducible exact HR324_0.out) | (with_reducible refine Kd.C_alloc ?_ _) | (with_reducible refine Kd.C_drewN ?_ _) | (with_reducible refine Kd.C_drew ?_) | exact HR324_0.out)) hb)
           replace HB := uB HB hb
           (try clear hb)
           (try clear hk)
           (try clear ho0)
           refine hK.out _ _ ⟨cb BK323 0, cb BK323 1, cb BK323 2, cb BK323 3, cb BK323 4, cb BK323 5, cb BK323 6, cb BK323 7, cb BK323 8, cb BK323 9, cb BK323 10, cb BK323 11, HS12_⟩ (fun hHeld => ?_)
           clear hK K
           refine nA ?_ (some 35)
           refine pA 6 29 HT_ ?_
           refine pA 7 36 HT_ ?_
           refine pA 8 37 HT_ ?_
           refine pA 9 9 HT_ ?_
           refine pA 10 10 HT_ ?_
           refine done_ (done_of HT_.out (by kernel_rfl)) ?_
           try go_wp2
           go_ret2
           exact ⟨_, eB, by first | exact Kd.S_nil _ _ _ _ _ | exact Kd.N_nil _ _ _ _ _ | exact Kd.V_nil _ _ _ _ _ | exact Kd.Q_nil _ _ _ _ _ | exact Kd.R_nil _ _ _ _ _, (bW HB)⟩
         ·rw [if_neg c17] at H
          exact absurd H (by simp)
        ·rw [if_neg c16] at H
         exact absurd H (by simp)
       ·rw [if_neg c15] at H
        exact absurd H (by simp)
      ·simp only [Option.some.injEq, Prod.mk.injEq] at H
       obtain ⟨rfl, rfl⟩ := H
       go_wp2
       go_ret2
       exact ⟨_, eB, by (with_reducible repeat (first | apply Kd.N_alloc | apply Kd.N_drewN | apply Kd.N_drew)); exact HO_6.out, (bW HB)⟩

/-! ### impl_IsHistory: function 32 -/
def impl_IsHistory.f (k : Nat) (l0 : List (S26)) (l1 : List (S28)) : Option (Bool) := (impl_versions.f k l0 l1).bind fun bt332 => (some bt332.2)
theorem impl_IsHistory.mono : ∀ a0 a1 k, LeO (impl_IsHistory.f k a0 a1) (impl_IsHistory.f (k + 1) a0 a1) := by
 intro a0 a1 k
 unfold impl_IsHistory.f
 repeat' with_reducible first | apply impl_versions.mono | exact LeO.refl _ | exact LeO.none _ | refine LeO.ite ?_ ?_ | refine LeO.bind ?_ (fun _ => ?_)
set_option maxHeartbeats 8000000 in
set_option maxRecDepth 100000 in
theorem impl_IsHistory.calls (k : Nat) (A0 : Option Addr) (c0 : Nat) (l0 : List (S26)) (A1 : Option Addr) (c1 : Nat) (l1 : List (S28)) (r : Bool) (w : World) (hr0 : Kd.C k26 w A0 l0.length l0) (hc0 : l0.length ≤ c0) (hr1 : Kd.C k28 w A1 l1.length l1) (hc1 : l1.length ≤ c1) (h : impl_IsHistory.f k l0 l1 = some r) :
  Calls Try.prog 32 #[.slice A0 l0.length c0, .slice A1 l1.length c1] w fun e w' => e = .returned (.bool r) ∧ Below w.heap.size w w' := by
 have HR0 := Aside0.mk hr0
 have HC0 := Aside0.mk hc0
 clear hr0 hc0
 have HR1 := Aside0.mk hr1
 have HC1 := Aside0.mk hc1
 clear hr1 hc1
 have HB := Aside0.mk (Below.refl w.heap.size w)
 have H := h
 clear h
 unfold impl_IsHistory.f at H
 replace H := Option.bind_eq_some_iff.mp H
 obtain ⟨⟨t332, t335⟩, A30, H⟩ := H
 replace H : (some t335) = some r := H
 have A3 := Aside0.mk A30
 clear A30
 obtain rfl := Option.some.inj H
 go_enter Try.func32, Try.ntmps32
 go_wp2_with (first | ((with_reducible refine gate_callee (f := 69) rfl ?_); refine goesL_ (some 10) rfl rfl Try.func69 (by kernel_rfl) rfl #[.slice A0 l0.length c0, .slice A1 l1.length c1] rfl argsB ?_; (with_reducible refine (impl_versions.calls k _ _ l0 _ _ l1 t332 t335 _ ?side1 ?side2 ?side3 ?side4 A3.out).mono ?_); (case side1 => repeat (first | exact HR0.out | (with_reducible refine Kd.C_alloc ?_ _) | (with_reducible refine Kd.C_drewN ?_ _) | (with_reducible refine Kd.C_drew ?_))); (case side2 => exact HC0.out); (case side3 => repeat (first | exact HR1.out | (with_reducible refine Kd.C_alloc ?_ _) | (with_reducible refine Kd.C_drewN ?_ _) | (with_reducible refine Kd.C_drew ?_))); (case side4 => exact HC1.out); rintro e w4 ⟨v333, rfl, ho0, hb⟩; refine ⟨_, rfl, ?_⟩; have HO334 := Aside0.mk (Kd.N_lower (Kd.N_mono (ok' := fun k_ => True) ho0 (fun k_ hk_ => trivial)) (below_size (bW HB))); replace HB := uB HB hb; (try clear hb); (try clear ho0)))
 go_ret
 exact ⟨eB, (bW HB)⟩

/-! ### impl_Edit_inverse: function 62 -/
def impl_Edit_inverse.f (a0_0 a0_1 a0_2 a0_3 a0_4 a0_5 a0_6 a0_7 a0_8 a0_9 a0_10 a0_11 : Int) : Option (Int × Int × Int × Int × Int × Int × Int × Int × Int × Int × Int × Int) := if a0_0 = 1 then (some (2, a0_1, a0_7, a0_8, a0_9, a0_10, a0_11, a0_2, a0_3, a0_4, a0_5, a0_6)) else (if a0_0 = 2 then (some (1, a0_1, a0_7, a0_8, a0_9, a0_10, a0_11, a0_2, a0_3, a0_4, a0_5, a0_6)) else (some (a0_0, a0_1, a0_7, a0_8, a0_9, a0_10, a0_11, a0_2, a0_3, a0_4, a0_5, a0_6)))
set_option maxHeartbeats 8000000 in
set_option maxRecDepth 100000 in
theorem impl_Edit_inverse.calls (a0_0 a0_1 a0_2 a0_3 a0_4 a0_5 a0_6 a0_7 a0_8 a0_9 a0_10 a0_11 r1 r2 r3 r4 r5 r6 r7 r8 r9 r10 r11 r12 : Int) (w : World) (h : impl_Edit_inverse.f a0_0 a0_1 a0_2 a0_3 a0_4 a0_5 a0_6 a0_7 a0_8 a0_9 a0_10 a0_11 = some (r1, r2, r3, r4, r5, r6, r7, r8, r9, r10, r11, r12)) :
  Calls Try.prog 62 #[.agg #[.int .i64 a0_0, .int .i64 a0_1, .int .i64 a0_2, .int .i64 a0_3, .int .i64 a0_4, .int .i64 a0_5, .int .i64 a0_6, .int .i64 a0_7, .int .i64 a0_8, .int .i64 a0_9, .int .i64 a0_10, .int .i64 a0_11]] w fun e w' => e = .returned (.agg #[.int .i64 r1, .int .i64 r2, .int .i64 r3, .int .i64 r4, .int .i64 r5, .int .i64 r6, .int .i64 r7, .int .i64 r8, .int .i64 r9, .int .i64 r10, .int .i64 r11, .int .i64 r12]) ∧ Below w.heap.size w w' := by
 have hu28 := Try.underlying28
 have hu26 := Try.underlying26
 have HB := Aside0.mk (Below.refl w.heap.size w)
 have H := h
 clear h
 unfold impl_Edit_inverse.f at H
 replace H := ifI H
 rcases H with ⟨H, -, c2b0, c2b1⟩ | ⟨H, c2, c2b0, c2b1⟩
 ·simp only [Option.some.injEq, Prod.mk.injEq] at H
  obtain ⟨rfl, rfl, rfl, rfl, rfl, rfl, rfl, rfl, rfl, rfl, rfl, rfl⟩ := H
  go_enter Try.func62, Try.ntmps62
  go_wp2_with (first | ((with_reducible refine gD 1 ?_); refine bxE 1 28 #[.int .i64 a0_0, .int .i64 a0_1, .int .i64 a0_2, .int .i64 a0_3, .int .i64 a0_4, .int .i64 a0_5, .int .i64 a0_6, .int .i64 a0_7, .int .i64 a0_8, .int .i64 a0_9, .int .i64 a0_10, .int .i64 a0_11] fun gb336 w3 hg hbox hb => ?_; have BK336 := Aside0.mk hbox; have GE336 := gB HB hg; replace HB := uB HB hb; clear hb hbox hg) | ((with_reducible refine gD 2 ?_); refine bxE 2 28 #[.int .i64 0, .int .i64 0, .int .i64 0, .int .i64 0, .int .i64 0, .int .i64 0, .int .i64 0, .int .i64 0, .int .i64 0, .int .i64 0, .int .i64 0, .int .i64 0] fun gb337 w4 hg hbox hb => ?_; have BK337 := Aside0.mk hbox; have GE337 := gB HB hg; have ⟨NB336_337, NB337_336⟩ := nB BK336 hg; replace BK336 := uK BK336 hb; replace HB := uB HB hb; clear hb hbox hg; have hnb5 := NB336_337.out; have hnc5 := NB337_336.out; have ⟨hcz6_0, hcz6_1, hcz6_2, hcz6_3, hcz6_4, hcz6_5, hcz6_6, hcz6_7, hcz6_8, hcz6_9, hcz6_10, hcz6_11, hfz6_0⟩ := cz12 BK336; have ⟨hcz7_0, hcz7_1, hcz7_2, hcz7_3, hcz7_4, hcz7_5, hcz7_6, hcz7_7, hcz7_8, hcz7_9, hcz7_10, hcz7_11, hfz7_0⟩ := cz12 BK337))
  refine bodyPost_ret (results_cell_row rfl _ _ gb337 28 #[.int .i64 2, .int .i64 a0_1, .int .i64 a0_7, .int .i64 a0_8, .int .i64 a0_9, .int .i64 a0_10, .int .i64 a0_11, .int .i64 a0_2, .int .i64 a0_3, .int .i64 a0_4, .int .i64 a0_5, .int .i64 a0_6] (0, 0) _ rfl (by exact pW BK337) Try.underlying28 rfl (by kernel_rfl)) rfl ?_
  exact ⟨eB, (bW HB)⟩
 ·replace H := ifI H
  rcases H with ⟨H, -, c8b0, c8b1⟩ | ⟨H, c8, c8b0, c8b1⟩
  ·simp only [Option.some.injEq, Prod.mk.injEq] at H
   obtain ⟨rfl, rfl, rfl, rfl, rfl, rfl, rfl, rfl, rfl, rfl, rfl, rfl⟩ := H
   go_enter Try.func62, Try.ntmps62
   go_wp2_with (first | ((with_reducible refine gD 1 ?_); refine bxE 1 28 #[.int .i64 a0_0, .int .i64 a0_1, .int .i64 a0_2, .int .i64 a0_3, .int .i64 a0_4, .int .i64 a0_5, .int .i64 a0_6, .int .i64 a0_7, .int .i64 a0_8, .int .i64 a0_9, .int .i64 a0_10, .int .i64 a0_11] fun gb336 w9 hg hbox hb => ?_; have BK336 := Aside0.mk hbox; have GE336 := gB HB hg; replace HB := uB HB hb; clear hb hbox hg) | ((with_reducible refine gD 2 ?_); refine bxE 2 28 #[.int .i64 0, .int .i64 0, .int .i64 0, .int .i64 0, .int .i64 0, .int .i64 0, .int .i64 0, .int .i64 0, .int .i64 0, .int .i64 0, .int .i64 0, .int .i64 0] fun gb337 w10 hg hbox hb => ?_; have BK337 := Aside0.mk hbox; have GE337 := gB HB hg; have ⟨NB336_337, NB337_336⟩ := nB BK336 hg; replace BK336 := uK BK336 hb; replace HB := uB HB hb; clear hb hbox hg; have hnb11 := NB336_337.out; have hnc11 := NB337_336.out; have ⟨hcz12_0, hcz12_1, hcz12_2, hcz12_3, hcz12_4, hcz12_5, hcz12_6, hcz12_7, hcz12_8, hcz12_9, hcz12_10, hcz12_11, hfz12_0⟩ := cz12 BK336; have ⟨hcz13_0, hcz13_1, hcz13_2, hcz13_3, hcz13_4, hcz13_5, hcz13_6, hcz13_7, hcz13_8, hcz13_9, hcz13_10, hcz13_11, hfz13_0⟩ := cz12 BK337))
   refine bodyPost_ret (results_cell_row rfl _ _ gb337 28 #[.int .i64 1, .int .i64 a0_1, .int .i64 a0_7, .int .i64 a0_8, .int .i64 a0_9, .int .i64 a0_10, .int .i64 a0_11, .int .i64 a0_2, .int .i64 a0_3, .int .i64 a0_4, .int .i64 a0_5, .int .i64 a0_6] (0, 0) _ rfl (by exact pW BK337) Try.underlying28 rfl (by kernel_rfl)) rfl ?_
   exact ⟨eB, (bW HB)⟩
  ·simp only [Option.some.injEq, Prod.mk.injEq] at H
   obtain ⟨rfl, rfl, rfl, rfl, rfl, rfl, rfl, rfl, rfl, rfl, rfl, rfl⟩ := H
   go_enter Try.func62, Try.ntmps62
   go_wp2_with (first | ((with_reducible refine gD 1 ?_); refine bxE 1 28 #[.int .i64 a0_0, .int .i64 a0_1, .int .i64 a0_2, .int .i64 a0_3, .int .i64 a0_4, .int .i64 a0_5, .int .i64 a0_6, .int .i64 a0_7, .int .i64 a0_8, .int .i64 a0_9, .int .i64 a0_10, .int .i64 a0_11] fun gb336 w14 hg hbox hb => ?_; have BK336 := Aside0.mk hbox; have GE336 := gB HB hg; replace HB := uB HB hb; clear hb hbox hg) | ((with_reducible refine gD 2 ?_); refine bxE 2 28 #[.int .i64 0, .int .i64 0, .int .i64 0, .int .i64 0, .int .i64 0, .int .i64 0, .int .i64 0, .int .i64 0, .int .i64 0, .int .i64 0, .int .i64 0, .int .i64 0] fun gb337 w15 hg hbox hb => ?_; have BK337 := Aside0.mk hbox; have GE337 := gB HB hg; have ⟨NB336_337, NB337_336⟩ := nB BK336 hg; replace BK336 := uK BK336 hb; replace HB := uB HB hb; clear hb hbox hg; have hnb16 := NB336_337.out; have hnc16 := NB337_336.out; have ⟨hcz17_0, hcz17_1, hcz17_2, hcz17_3, hcz17_4, hcz17_5, hcz17_6, hcz17_7, hcz17_8, hcz17_9, hcz17_10, hcz17_11, hfz17_0⟩ := cz12 BK336; have ⟨hcz18_0, hcz18_1, hcz18_2, hcz18_3, hcz18_4, hcz18_5, hcz18_6, hcz18_7, hcz18_8, hcz18_9, hcz18_10, hcz18_11, hfz18_0⟩ := cz12 BK337))
   refine bodyPost_ret (results_cell_row rfl _ _ gb337 28 #[.int .i64 a0_0, .int .i64 a0_1, .int .i64 a0_7, .int .i64 a0_8, .int .i64 a0_9, .int .i64 a0_10, .int .i64 a0_11, .int .i64 a0_2, .int .i64 a0_3, .int .i64 a0_4, .int .i64 a0_5, .int .i64 a0_6] (0, 0) _ rfl (by exact pW BK337) Try.underlying28 rfl (by kernel_rfl)) rfl ?_
   exact ⟨eB, (bW HB)⟩

end Go.Proofs.Ytinelmmnajelaaa.QFnExactUndoEdits
