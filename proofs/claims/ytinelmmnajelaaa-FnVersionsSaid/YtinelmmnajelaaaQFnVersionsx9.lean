/- Contracts of Go functions that FnVersions reaches: the call computes what the plain function says. No condition. -/
import Derived.Test.YtinelmmnajelaaaQFnVersionsx0
import Derived.Test.YtinelmmnajelaaaQFnVersionsx3
import Derived.Test.YtinelmmnajelaaaQFnVersionsx6
import Derived.Test.YtinelmmnajelaaaQFnVersionsx7
import Derived.Test.YtinelmmnajelaaaQFnVersionsx8
namespace Go.Proofs.Ytinelmmnajelaaa.QFnVersions
open Go.RowKit Go.Proofs.YtinelmmnajelaaaW.PrintWords Go.Proofs.YtinelmmnajelaaaW.PrintLast Go.Proofs.YtinelmmnajelaaaW.PrintMore
attribute [local go_sem] max2_int min2_int max_two min_two max_three min_three max_four min_four   -- for this text's walks alone
set_option linter.unusedVariables false
set_option linter.unusedSimpArgs false

/-! ### impl_versions: function 69 -/
mutual
def impl_versions.j0 : Nat → List (S26) → List (S28) → List (List (S26)) → Bool → Option ((List (List (S26))) × Bool)
 | 0, _, _, _, _ => none
 | k + 1, x0, x1, x4, x18 => if x18 = true then (some (([] : List (List (S26))), false)) else ((impl_Leg_91.f x0).bind fun t268 => (if x4.length < 5864062014805 then (impl_versions.l0 k (x4 ++ [t268]) x1 (x1.length : Int) 0) else (none)))
def impl_versions.l0 : Nat → List (List (S26)) → List (S28) → Int → Int → Option ((List (List (S26))) × Bool)
 | 0, _, _, _, _ => none
 | k + 1, x6, x22, x23, x24 => if x24 < x23 then (if 0 ≤ x24 then (if x24 < (x22.length : Int) then (if x24 < (x6.length : Int) then ((impl_apply.f k (rd_L2 x6 x24) ((rd_T28 x22 x24).f0) ((rd_T28 x22 x24).f1) ((rd_T28 x22 x24).f2.f0) ((rd_T28 x22 x24).f2.f1) ((rd_T28 x22 x24).f2.f2) ((rd_T28 x22 x24).f2.f3) ((rd_T28 x22 x24).f2.f4) ((rd_T28 x22 x24).f3.f0) ((rd_T28 x22 x24).f3.f1) ((rd_T28 x22 x24).f3.f2) ((rd_T28 x22 x24).f3.f3) ((rd_T28 x22 x24).f3.f4)).bind fun bt277 => (if bt277.2 = true then (if x6.length < 5864062014805 then (impl_versions.l0 k (x6 ++ [bt277.1]) x22 x23 (wrap64 (x24 + 1))) else (none)) else (some (([] : List (List (S26))), false)))) else (none)) else (none)) else (none)) else (some (x6, true))
end
def impl_versions.f (k : Nat) (l0 : List (S26)) (l1 : List (S28)) : Option ((List (List (S26))) × Bool) := (impl_areLegs.f k l0).bind fun t267 => (if t267 = true then (impl_versions.j0 k l0 l1 ([] : List (List (S26))) (decide ((l1.length : Int) > 10))) else (impl_versions.j0 k l0 l1 ([] : List (List (S26))) true))
theorem impl_versions.mono_l : ∀ k, (∀ y0 y1 y2 y3, LeO (impl_versions.j0 k y0 y1 y2 y3) (impl_versions.j0 (k + 1) y0 y1 y2 y3)) ∧ (∀ y0 y1 y2 y3, LeO (impl_versions.l0 k y0 y1 y2 y3) (impl_versions.l0 (k + 1) y0 y1 y2 y3))
 | 0 => ⟨fun _ _ _ _ r h => by simp [impl_versions.j0] at h, fun _ _ _ _ r h => by simp [impl_versions.l0] at h⟩
 | k + 1 => by
  obtain ⟨ih0, ih1⟩ := impl_versions.mono_l k
  refine ⟨?_, ?_⟩
  ·intro y0 y1 y2 y3
   unfold impl_versions.j0
   repeat' with_reducible first | apply ih0 | apply ih1 | apply impl_apply.mono | apply impl_areLegs.mono | exact LeO.refl _ | exact LeO.none _ | refine LeO.ite ?_ ?_ | refine LeO.bind ?_ (fun _ => ?_)
  ·intro y0 y1 y2 y3
   unfold impl_versions.l0
   repeat' with_reducible first | apply ih0 | apply ih1 | apply impl_apply.mono | apply impl_areLegs.mono | exact LeO.refl _ | exact LeO.none _ | refine LeO.ite ?_ ?_ | refine LeO.bind ?_ (fun _ => ?_)
theorem impl_versions.mono : ∀ a0 a1 k, LeO (impl_versions.f k a0 a1) (impl_versions.f (k + 1) a0 a1) := by
 intro a0 a1 k
 obtain ⟨ih0, ih1⟩ := impl_versions.mono_l k
 unfold impl_versions.f
 repeat' with_reducible first | apply ih0 | apply ih1 | apply impl_apply.mono | apply impl_areLegs.mono | exact LeO.refl _ | exact LeO.none _ | refine LeO.ite ?_ ?_ | refine LeO.bind ?_ (fun _ => ?_)
def impl_versions.T7 : Bool × List (List Nat × List Nat) := (true, [([], []), ([], []), ([0, 1], [0, 1]), ([2], [2]), ([], []), ([3, 4], [3, 4]), ([5], [5]), ([6], [6]), ([6], [6]), ([7, 5, 0, 1, 2, 3, 4, 5, 6, 7], [7]), ([8, 9, 0, 1, 2, 3, 4, 5, 6, 7, 8, 9], [8])])
def impl_versions.B7 : List Nat := [0, 0, 3, 7, 0, 31, 63, 127, 127, 255, 1023]
theorem impl_versions.tab7 : rtab .any (opsOf Try.f69 7) = impl_versions.T7 := by kernel_rfl
theorem impl_versions.bits7 : waitsOk impl_versions.T7.2 impl_versions.B7 = true := by kernel_rfl
set_option maxHeartbeats 8000000 in
set_option maxRecDepth 100000 in
theorem impl_versions.calls (k : Nat) (A0 : Option Addr) (c0 : Nat) (l0 : List (S26)) (A1 : Option Addr) (c1 : Nat) (l1 : List (S28)) (r1 : List (List (S26))) (r2 : Bool) (w : World) (hr0 : Kd.C k26 w A0 l0.length l0) (hc0 : l0.length ≤ c0) (hr1 : Kd.C k28 w A1 l1.length l1) (hc1 : l1.length ≤ c1) (h : impl_versions.f k l0 l1 = some (r1, r2)) :
  Calls Try.prog 69 #[.slice A0 l0.length c0, .slice A1 l1.length c1] w fun e w' => ∃ v0_ : Value, e = .returned (.tuple #[v0_, .bool r2]) ∧ Kd.S (Kd.slice 26 k26) 39 w' w.heap.size (fun _ => True) v0_ r1 ∧ Below w.heap.size w w' := by
 have hu28 := Try.underlying28
 have HR0 := Aside0.mk hr0
 have HC0 := Aside0.mk hc0
 clear hr0 hc0
 have HR1 := Aside0.mk hr1
 have HC1 := Aside0.mk hc1
 clear hr1 hc1
 have HB := Aside0.mk (Below.refl w.heap.size w)
 have H := h
 clear h
 unfold impl_versions.f at H
 have HC3 := Aside0.mk H
 clear H
 go_enter Try.func69, Try.ntmps69
 go_upto_region 1 with (fail)
 go_cut [18] (fun v18 wc => ∃ (kq : Nat) (x18_2 : Bool), v18 = .bool x18_2 ∧ Aside0 (impl_versions.j0 kq l0 l1 ([] : List (List (S26))) x18_2 = some (r1, r2)) ∧ Aside0 (kq ≤ k) ∧ Aside0 (Kd.S (Kd.slice 26 k26) 39 wc w.heap.size (fun _ => True) (.slice none 0 0) ([] : List (List (S26)))) ∧ Aside0 (Below w.heap.size w wc))
 case first =>
  have H := HC3.out
  clear HC3
  replace H := bA H
  obtain ⟨t267, A4, H⟩ := H
  rcases Bool.eq_false_or_eq_true t267 with rfl | rfl
  ·replace H := iT rfl H
   have H' := Aside0.mk H
   clear H
   go_wp2_with (first | ((with_reducible refine gC 65 ?_); refine lA (some 12) Try.func65 (impl_areLegs.calls k _ _ l0 true _ ?side1 ?side2 A4.out) ?_; (case side1 => repeat (first | exact (Kd.C_below HR0.out HB.out) | (with_reducible refine Kd.C_alloc ?_ _) | (with_reducible refine Kd.C_drewN ?_ _) | (with_reducible refine Kd.C_drew ?_))); (case side2 => exact HC0.out); intro w6 hb; replace HB := uB HB hb; (try clear hb); (try clear hk)))
   go_meet
   case rel => exact ⟨_, (decide ((l1.length : Int) > 10)), rB, H', leB, ⟨by first | exact Kd.S_nil _ _ _ _ _ | exact Kd.N_nil _ _ _ _ _ | exact Kd.V_nil _ _ _ _ _ | exact Kd.Q_nil _ _ _ _ _ | exact Kd.R_nil _ _ _ _ _⟩, (aB HB)⟩
  ·replace H := iF (by decide) H
   have H' := Aside0.mk H
   clear H
   go_wp2_with (first | ((with_reducible refine gC 65 ?_); refine lA (some 12) Try.func65 (impl_areLegs.calls k _ _ l0 false _ ?side1 ?side2 A4.out) ?_; (case side1 => repeat (first | exact (Kd.C_below HR0.out HB.out) | (with_reducible refine Kd.C_alloc ?_ _) | (with_reducible refine Kd.C_drewN ?_ _) | (with_reducible refine Kd.C_drew ?_))); (case side2 => exact HC0.out); intro w7 hb; replace HB := uB HB hb; (try clear hb); (try clear hk)))
   go_meet
   case rel => exact ⟨_, (true), rB, H', leB, ⟨by first | exact Kd.S_nil _ _ _ _ _ | exact Kd.N_nil _ _ _ _ _ | exact Kd.V_nil _ _ _ _ _ | exact Kd.Q_nil _ _ _ _ _ | exact Kd.R_nil _ _ _ _ _⟩, (aB HB)⟩
 case rest =>
  clear HC3
  try clear c1
  obtain ⟨kq, x18_2, rfl, HA, HJ2, HO_4, HB⟩ := hcut
  cases kq with
  | zero => exact absurd HA.out (by simp [impl_versions.j0])
  | succ kj2 =>
   have H := HA.out
   clear HA
   simp only [impl_versions.j0] at H
   rcases Bool.eq_false_or_eq_true x18_2 with rfl | rfl
   ·replace H := iT rfl H
    simp only [Option.some.injEq, Prod.mk.injEq] at H
    obtain ⟨rfl, rfl⟩ := H
    go_wp2
    go_ret2
    exact ⟨_, eB, by first | exact Kd.S_nil _ _ _ _ _ | exact Kd.N_nil _ _ _ _ _ | exact Kd.V_nil _ _ _ _ _ | exact Kd.Q_nil _ _ _ _ _ | exact Kd.R_nil _ _ _ _ _, (bW HB)⟩
   ·replace H := iF (by decide) H
    replace H := bA H
    obtain ⟨t268, A9, H⟩ := H
    by_cases c10 : ([] : List (List (S26))).length < 5864062014805
    ·rw [if_pos c10] at H
     have LMc10 := Aside0.mk c10
     clear c10
     obtain ⟨y271, hy271⟩ : ∃ y_ : List (List (S26)), y_ = (([] : List (List (S26))) ++ [t268]) := ⟨_, rfl⟩
     replace H : (impl_versions.l0 kj2 y271 l1 (l1.length : Int) 0) = some (r1, r2) := by first | (rw [hy271]; with_reducible exact H) | (have H2_ := (Option.bind_some _ _).symm.trans H; rw [hy271]; with_reducible exact H2_) | (have H2_ := (Option.bind_some _ _).symm.trans H; with_reducible exact H2_) | with_reducible exact H | (rw [hy271]; exact H) | exact H
     have Ny271 := Aside0.mk hy271
     clear hy271
     have H' := Aside0.mk H
     clear H
     go_wp2_with (first | ((with_reducible refine gate_callee (f := 91) rfl ?_); refine goesL_ (some 20) rfl rfl Try.func91 (by kernel_rfl) rfl #[.slice A0 l0.length c0] rfl argsB ?_; (with_reducible refine (impl_Leg_91.calls _ _ l0 t268 _ ?side1 ?side2 A9.out).mono ?_); (case side1 => repeat (first | exact (Kd.C_below HR0.out HB.out) | (with_reducible refine Kd.C_alloc ?_ _) | (with_reducible refine Kd.C_drewN ?_ _) | (with_reducible refine Kd.C_drew ?_))); (case side2 => exact HC0.out); rintro e w11 ⟨v269, rfl, ho0, hb⟩; refine ⟨_, rfl, ?_⟩; have HO270 := Aside0.mk (Kd.R_lower ho0 (below_size (bW HB))); replace HO_4 := Aside0.mk (Kd.S_elder' (by (with_reducible repeat (first | apply Kd.S_alloc | apply Kd.S_drewN | apply Kd.S_drew)); exact HO_4.out) (Kd.R_base ho0) hb); replace HB := uB HB hb; (try clear hb); (try clear hk); (try clear ho0); obtain ⟨Ao13, co13, eo13⟩ := Kd.R_slice HO270.out; subst eo13) | ((with_reducible refine gate_dst (N := 21) rfl ?_); refine Kd.S_lits (Kd.slice 26 k26) (w0 := w) w.heap.size 39 ?hg (N := 21) ?hd (xs := (([] : List (List (S26))) ++ [t268])) (inner := [.slice Ao13 t268.length co13]) (ok := fun _ => True) (fun j_ k_ => j_ = 0 ∧ some k_ = (.slice Ao13 t268.length co13 : Value).ownBlock) ?hr (by rfl) ?hp (fun _ _ _ hi_ hj_ => hi_.1.trans hj_.1.symm) (fun _ _ _ => trivial) trivial ?aB ?aS (by simp) ?_; (case hd => rfl); (case hg => rfl); (case hr => first | (go_simp; done) | (go_simp; rfl)); (case hp => (intro j_ x_ hj_; rcases j_ with _ | j_; (obtain rfl : t268 = x_ := (by simpa using hj_)); (exact Kd.M_row (Kd.R_mono (Kd.R_tight rfl (HO270.out)) (fun _ h_ => ⟨rfl, h_⟩))); (simp at hj_))); (case aB => exact (bW HB)); (case aS => exact (below_size (bW HB))); intro v272 w12 ho hb hg_ hnew_; rw [← Ny271.out] at ho; have HO273 := Aside0.mk (ho); replace HB := Aside0.mk (hb); clear HO_4 HO270; clear ho hb hg_ hnew_))
     (try simp only [Act.put, List.setIfInBounds_toArray, List.set_cons_zero, List.set_cons_succ])
     go_loopg [6, 24] kj2 (fun kq v6 v24 w' => ∃ (x6_2 : List (List (S26))) (x24_2 : Int), v24 = .int .i64 x24_2 ∧ Aside0 (impl_versions.l0 kq x6_2 l1 (l1.length : Int) x24_2 = some (r1, r2)) ∧ Aside0 (kq ≤ kj2) ∧ Aside0 (Kd.S (Kd.slice 26 k26) 39 w' w.heap.size (fun _ => True) v6 x6_2) ∧ Aside0 (Below w.heap.size w w'))
     case atStart => exact ⟨(y271), (0), rB, H', ⟨Nat.le_refl _⟩, ⟨by (with_reducible repeat (first | apply Kd.S_alloc | apply Kd.S_drewN | apply Kd.S_drew)); exact HO273.out⟩, (aB HB)⟩
     case round =>
      clear H'
      try clear c1
      try clear c10
      obtain ⟨x6_2, x24_2, rfl, HA, HK2, HO_6, HB⟩ := hrel
      cases gk with
      | zero => exact absurd HA.out (by simp [impl_versions.l0])
      | succ k2 =>
       have H := HA.out
       clear HA
       simp only [impl_versions.l0] at H
       replace H := ifD H
       rcases H with ⟨H, -, c14b0⟩ | ⟨H, -, c14b0⟩
       ·by_cases c15 : 0 ≤ x24_2
        ·rw [if_pos c15] at H
         have c15b0 : decide (0 ≤ x24_2) = true := decide_eq_true c15
         clear c15
         by_cases c16 : x24_2 < (l1.length : Int)
         ·rw [if_pos c16] at H
          have c16b0 : decide (x24_2 < (l1.length : Int)) = true := decide_eq_true c16
          clear c16
          by_cases c17 : x24_2 < (x6_2.length : Int)
          ·rw [if_pos c17] at H
           have c17b0 : decide (x24_2 < (x6_2.length : Int)) = true := decide_eq_true c17
           clear c17
           replace H := Option.bind_eq_some_iff.mp H
           obtain ⟨⟨t277, t280⟩, A180, H⟩ := H
           replace H : (if t280 = true then (if x6_2.length < 5864062014805 then (impl_versions.l0 k2 (x6_2 ++ [t277]) l1 (l1.length : Int) (wrap64 (x24_2 + 1))) else (none)) else (some (([] : List (List (S26))), false))) = some (r1, r2) := H
           have A18 := Aside0.mk A180
           clear A180
           rcases Bool.eq_false_or_eq_true t280 with rfl | rfl
           ·replace H := iT rfl H
            by_cases c20 : x6_2.length < 5864062014805
            ·rw [if_pos c20] at H
             have LMc20 := Aside0.mk c20
             clear c20
             obtain ⟨y281, hy281⟩ : ∃ y_ : List (List (S26)), y_ = (x6_2 ++ [t277]) := ⟨_, rfl⟩
             replace H : (impl_versions.l0 k2 y281 l1 (l1.length : Int) (wrap64 (x24_2 + 1))) = some (r1, r2) := by first | (rw [hy281]; with_reducible exact H) | (have H2_ := (Option.bind_some _ _).symm.trans H; rw [hy281]; with_reducible exact H2_) | (have H2_ := (Option.bind_some _ _).symm.trans H; with_reducible exact H2_) | with_reducible exact H | (rw [hy281]; exact H) | exact H
             have Ny281 := Aside0.mk hy281
             clear hy281
             have H' := Aside0.mk H
             clear H
             have p274 : 0 ≤ (x24_2 : Int) := of_decide_eq_true asmB
             have q274 : x24_2 < (l1.length : Int) := of_decide_eq_true asmB
             obtain ⟨ad274, e274, hx274_0, hx274_1, hx274_2, hx274_3, hx274_4, hx274_5, hx274_6, hx274_7, hx274_8, hx274_9, hx274_10, hx274_11⟩ := at_T28 HR1.out x24_2 p274 q274
             cases e274
             replace hx274_0 := bx HB.out hx274_0
             replace hx274_1 := bx HB.out hx274_1
             replace hx274_2 := bx HB.out hx274_2
             replace hx274_3 := bx HB.out hx274_3
             replace hx274_4 := bx HB.out hx274_4
             replace hx274_5 := bx HB.out hx274_5
             replace hx274_6 := bx HB.out hx274_6
             replace hx274_7 := bx HB.out hx274_7
             replace hx274_8 := bx HB.out hx274_8
             replace hx274_9 := bx HB.out hx274_9
             replace hx274_10 := bx HB.out hx274_10
             replace hx274_11 := bx HB.out hx274_11
             replace p274 := eq_true p274
             replace q274 := eq_true q274
             try go_wp2_with (first | ((with_reducible refine gD 8 ?_); (try (refine gate_guard (by rfl) ?_; dsimp only)); refine bxE 8 28 #[.int .i64 0, .int .i64 0, .int .i64 0, .int .i64 0, .int .i64 0, .int .i64 0, .int .i64 0, .int .i64 0, .int .i64 0, .int .i64 0, .int .i64 0, .int .i64 0] fun gb275 w21 hg hbox hb => ?_; have BK275 := Aside0.mk hbox; have GE275 := gB HB hg; replace HO_6 := Aside0.mk (Kd.S_below (by (with_reducible repeat (first | apply Kd.S_alloc | apply Kd.S_drewN | apply Kd.S_drew)); exact HO_6.out) hb); replace HB := uB HB hb; clear hb hbox hg; have ⟨hcz22_0, hcz22_1, hcz22_2, hcz22_3, hcz22_4, hcz22_5, hcz22_6, hcz22_7, hcz22_8, hcz22_9, hcz22_10, hcz22_11, hfz22_0⟩ := cz12 BK275))
             have n0_ : Aside0 (Kd.S (Kd.slice 26 k26) 39 ((((((((((((w21.setCell ⟨gb275, 0, none⟩ (.int .i64 ((rd_T28 l1 x24_2).f0))).setCell ⟨gb275, 1, none⟩ (.int .i64 ((rd_T28 l1 x24_2).f1))).setCell ⟨gb275, 2, none⟩ (.int .i64 ((rd_T28 l1 x24_2).f2.f0))).setCell ⟨gb275, 3, none⟩ (.int .i64 ((rd_T28 l1 x24_2).f2.f1))).setCell ⟨gb275, 4, none⟩ (.int .i64 ((rd_T28 l1 x24_2).f2.f2))).setCell ⟨gb275, 5, none⟩ (.int .i64 ((rd_T28 l1 x24_2).f2.f3))).setCell ⟨gb275, 6, none⟩ (.int .i64 ((rd_T28 l1 x24_2).f2.f4))).setCell ⟨gb275, 7, none⟩ (.int .i64 ((rd_T28 l1 x24_2).f3.f0))).setCell ⟨gb275, 8, none⟩ (.int .i64 ((rd_T28 l1 x24_2).f3.f1))).setCell ⟨gb275, 9, none⟩ (.int .i64 ((rd_T28 l1 x24_2).f3.f2))).setCell ⟨gb275, 10, none⟩ (.int .i64 ((rd_T28 l1 x24_2).f3.f3))).setCell ⟨gb275, 11, none⟩ (.int .i64 ((rd_T28 l1 x24_2).f3.f4))) w.heap.size (fun _ => True) u6 x6_2) := ⟨by (with_reducible repeat (first | apply Kd.S_alloc | apply Kd.S_drewN | apply Kd.S_drew)); exact Kd.S_mono (Kd.S_far (p := ⟨gb275, 11, none⟩) (Kd.S_far (p := ⟨gb275, 10, none⟩) (Kd.S_far (p := ⟨gb275, 9, none⟩) (Kd.S_far (p := ⟨gb275, 8, none⟩) (Kd.S_far (p := ⟨gb275, 7, none⟩) (Kd.S_far (p := ⟨gb275, 6, none⟩) (Kd.S_far (p := ⟨gb275, 5, none⟩) (Kd.S_far (p := ⟨gb275, 4, none⟩) (Kd.S_far (p := ⟨gb275, 3, none⟩) (Kd.S_far (p := ⟨gb275, 2, none⟩) (Kd.S_far (p := ⟨gb275, 1, none⟩) (Kd.S_far (p := ⟨gb275, 0, none⟩) (Kd.S_types HO_6.out BK275.out (by decide)) (fun _ hk => hk.2) (.int .i64 ((rd_T28 l1 x24_2).f0))) (fun _ hk => hk.2) (.int .i64 ((rd_T28 l1 x24_2).f1))) (fun _ hk => hk.2) (.int .i64 ((rd_T28 l1 x24_2).f2.f0))) (fun _ hk => hk.2) (.int .i64 ((rd_T28 l1 x24_2).f2.f1))) (fun _ hk => hk.2) (.int .i64 ((rd_T28 l1 x24_2).f2.f2))) (fun _ hk => hk.2) (.int .i64 ((rd_T28 l1 x24_2).f2.f3))) (fun _ hk => hk.2) (.int .i64 ((rd_T28 l1 x24_2).f2.f4))) (fun _ hk => hk.2) (.int .i64 ((rd_T28 l1 x24_2).f3.f0))) (fun _ hk => hk.2) (.int .i64 ((rd_T28 l1 x24_2).f3.f1))) (fun _ hk => hk.2) (.int .i64 ((rd_T28 l1 x24_2).f3.f2))) (fun _ hk => hk.2) (.int .i64 ((rd_T28 l1 x24_2).f3.f3))) (fun _ hk => hk.2) (.int .i64 ((rd_T28 l1 x24_2).f3.f4))) (fun _ hk => trivial)⟩
             have n1_ : Aside0 (((((((((((((w21.setCell ⟨gb275, 0, none⟩ (.int .i64 ((rd_T28 l1 x24_2).f0))).setCell ⟨gb275, 1, none⟩ (.int .i64 ((rd_T28 l1 x24_2).f1))).setCell ⟨gb275, 2, none⟩ (.int .i64 ((rd_T28 l1 x24_2).f2.f0))).setCell ⟨gb275, 3, none⟩ (.int .i64 ((rd_T28 l1 x24_2).f2.f1))).setCell ⟨gb275, 4, none⟩ (.int .i64 ((rd_T28 l1 x24_2).f2.f2))).setCell ⟨gb275, 5, none⟩ (.int .i64 ((rd_T28 l1 x24_2).f2.f3))).setCell ⟨gb275, 6, none⟩ (.int .i64 ((rd_T28 l1 x24_2).f2.f4))).setCell ⟨gb275, 7, none⟩ (.int .i64 ((rd_T28 l1 x24_2).f3.f0))).setCell ⟨gb275, 8, none⟩ (.int .i64 ((rd_T28 l1 x24_2).f3.f1))).setCell ⟨gb275, 9, none⟩ (.int .i64 ((rd_T28 l1 x24_2).f3.f2))).setCell ⟨gb275, 10, none⟩ (.int .i64 ((rd_T28 l1 x24_2).f3.f3))).setCell ⟨gb275, 11, none⟩ (.int .i64 ((rd_T28 l1 x24_2).f3.f4))).heap[gb275]? = some (.cells #[.int .i64 ((rd_T28 l1 x24_2).f0), .int .i64 ((rd_T28 l1 x24_2).f1), .int .i64 ((rd_T28 l1 x24_2).f2.f0), .int .i64 ((rd_T28 l1 x24_2).f2.f1), .int .i64 ((rd_T28 l1 x24_2).f2.f2), .int .i64 ((rd_T28 l1 x24_2).f2.f3), .int .i64 ((rd_T28 l1 x24_2).f2.f4), .int .i64 ((rd_T28 l1 x24_2).f3.f0), .int .i64 ((rd_T28 l1 x24_2).f3.f1), .int .i64 ((rd_T28 l1 x24_2).f3.f2), .int .i64 ((rd_T28 l1 x24_2).f3.f3), .int .i64 ((rd_T28 l1 x24_2).f3.f4)] 28 (0, 0))) := ⟨by exact pW BK275⟩
             have n2_ : Aside0 (Below w.heap.size w ((((((((((((w21.setCell ⟨gb275, 0, none⟩ (.int .i64 ((rd_T28 l1 x24_2).f0))).setCell ⟨gb275, 1, none⟩ (.int .i64 ((rd_T28 l1 x24_2).f1))).setCell ⟨gb275, 2, none⟩ (.int .i64 ((rd_T28 l1 x24_2).f2.f0))).setCell ⟨gb275, 3, none⟩ (.int .i64 ((rd_T28 l1 x24_2).f2.f1))).setCell ⟨gb275, 4, none⟩ (.int .i64 ((rd_T28 l1 x24_2).f2.f2))).setCell ⟨gb275, 5, none⟩ (.int .i64 ((rd_T28 l1 x24_2).f2.f3))).setCell ⟨gb275, 6, none⟩ (.int .i64 ((rd_T28 l1 x24_2).f2.f4))).setCell ⟨gb275, 7, none⟩ (.int .i64 ((rd_T28 l1 x24_2).f3.f0))).setCell ⟨gb275, 8, none⟩ (.int .i64 ((rd_T28 l1 x24_2).f3.f1))).setCell ⟨gb275, 9, none⟩ (.int .i64 ((rd_T28 l1 x24_2).f3.f2))).setCell ⟨gb275, 10, none⟩ (.int .i64 ((rd_T28 l1 x24_2).f3.f3))).setCell ⟨gb275, 11, none⟩ (.int .i64 ((rd_T28 l1 x24_2).f3.f4)))) := (aB HB)
             (try clear HO_6)
             (try clear BK275)
             (try clear HB)
             generalize ((((((((((((w21.setCell ⟨gb275, 0, none⟩ (.int .i64 ((rd_T28 l1 x24_2).f0))).setCell ⟨gb275, 1, none⟩ (.int .i64 ((rd_T28 l1 x24_2).f1))).setCell ⟨gb275, 2, none⟩ (.int .i64 ((rd_T28 l1 x24_2).f2.f0))).setCell ⟨gb275, 3, none⟩ (.int .i64 ((rd_T28 l1 x24_2).f2.f1))).setCell ⟨gb275, 4, none⟩ (.int .i64 ((rd_T28 l1 x24_2).f2.f2))).setCell ⟨gb275, 5, none⟩ (.int .i64 ((rd_T28 l1 x24_2).f2.f3))).setCell ⟨gb275, 6, none⟩ (.int .i64 ((rd_T28 l1 x24_2).f2.f4))).setCell ⟨gb275, 7, none⟩ (.int .i64 ((rd_T28 l1 x24_2).f3.f0))).setCell ⟨gb275, 8, none⟩ (.int .i64 ((rd_T28 l1 x24_2).f3.f1))).setCell ⟨gb275, 9, none⟩ (.int .i64 ((rd_T28 l1 x24_2).f3.f2))).setCell ⟨gb275, 10, none⟩ (.int .i64 ((rd_T28 l1 x24_2).f3.f3))).setCell ⟨gb275, 11, none⟩ (.int .i64 ((rd_T28 l1 x24_2).f3.f4))) = w23 at n0_ n1_ n2_ ⊢
             have HO_6 := n0_
             have BK275 := n1_
             have HB := n2_
             clear n0_ n1_ n2_
             replace HO_6 := Aside0.mk (Kd.S_drew HO_6.out)
             replace BK275 := dK BK275
             replace HB := Aside0.mk (below_drew1 HB.out)
             obtain ⟨Ao25, co25, eo25⟩ := Kd.S_slice HO_6.out
             (first | subst eo25 | (injection eo25 with f1_ f2_ f3_; have f4_ := f1_.symm; have f5_ := f3_.symm; clear f1_ f2_ f3_; subst f4_; subst f5_))
             have p276 : 0 ≤ (x24_2 : Int) := of_decide_eq_true asmB
             have q276 : x24_2 < (x6_2.length : Int) := of_decide_eq_true asmB
             obtain ⟨ad276, A276_0, c276_0, e276, hx276_0, hl276_0, hi276_0⟩ := at_L2 (Kd.S_reads' HO_6.out).2.2 x24_2 p276 q276
             cases e276
             obtain ⟨ce276, hce276, hMe276, hcc276⟩ := Kd.S_get HO_6.out [] x24_2 p276 (by first | exact q276 | exact of_decide_eq_true asmB | (have e_ := (Kd.S_reads' HO_6.out).1; omega))
             obtain ⟨ve276_0, rfl, ge276_0⟩ := hMe276
             have hv276_0 := hcc276 0 _ rfl
             rw [Nat.add_zero, show ((Kd.slice 26 k26)).sz = 1 from rfl, Nat.mul_one] at hv276_0
             replace hv276_0 := Option.some.inj (hv276_0.symm.trans hx276_0)
             rw [hv276_0] at ge276_0
             have HL276_0 := Aside0.mk (show Kd.R k26 26 _ _ _ _ (rd_L2 x6_2 x24_2) from ge276_0)
             clear hv276_0 ge276_0
             clear hcc276 hce276
             have HR276_0 := Aside0.mk hi276_0
             have HC276_0 := Aside0.mk hl276_0
             clear hi276_0 hl276_0
             replace p276 := eq_true p276
             replace q276 := eq_true q276
             refine sA (n := 11) (S := fun w' => w'.cell? ⟨gb275, 0, none⟩ = some (.int .i64 ((rd_T28 l1 x24_2).f0)) ∧ w'.cell? ⟨gb275, 1, none⟩ = some (.int .i64 ((rd_T28 l1 x24_2).f1)) ∧ w'.cell? ⟨gb275, 2, none⟩ = some (.int .i64 ((rd_T28 l1 x24_2).f2.f0)) ∧ w'.cell? ⟨gb275, 3, none⟩ = some (.int .i64 ((rd_T28 l1 x24_2).f2.f1)) ∧ w'.cell? ⟨gb275, 4, none⟩ = some (.int .i64 ((rd_T28 l1 x24_2).f2.f2)) ∧ w'.cell? ⟨gb275, 5, none⟩ = some (.int .i64 ((rd_T28 l1 x24_2).f2.f3)) ∧ w'.cell? ⟨gb275, 6, none⟩ = some (.int .i64 ((rd_T28 l1 x24_2).f2.f4)) ∧ w'.cell? ⟨gb275, 7, none⟩ = some (.int .i64 ((rd_T28 l1 x24_2).f3.f0)) ∧ w'.cell? ⟨gb275, 8, none⟩ = some (.int .i64 ((rd_T28 l1 x24_2).f3.f1)) ∧ w'.cell? ⟨gb275, 9, none⟩ = some (.int .i64 ((rd_T28 l1 x24_2).f3.f2)) ∧ w'.cell? ⟨gb275, 10, none⟩ = some (.int .i64 ((rd_T28 l1 x24_2).f3.f3)) ∧ w'.cell? ⟨gb275, 11, none⟩ = some (.int .i64 ((rd_T28 l1 x24_2).f3.f4)) ∧ w'.cell? (ad276.add (x24_2).toNat) = some (.slice A276_0 (rd_L2 x6_2 x24_2).length c276_0)) (ds := []) impl_versions.tab7 impl_versions.bits7 #[false, false, false, false, false, false, false, false, false, false, false] ⟨cb BK275 0, cb BK275 1, cb BK275 2, cb BK275 3, cb BK275 4, cb BK275 5, cb BK275 6, cb BK275 7, cb BK275 8, cb BK275 9, cb BK275 10, cb BK275 11, hx276_0⟩ fun hHeld HT_ HW_ => ?_
             generalize w23.drew = w24 at HO_6 BK275 HB HL276_0 HR276_0 hx276_0 hHeld ⊢
             refine pA 0 30 HT_ ?_
             refine pA 1 31 HT_ ?_
             refine pA 2 32 HT_ ?_
             refine tA 3 33 HT_ HW_ hHeld ?_
             refine tA 4 34 HT_ HW_ hHeld ?_
             refine oA 5 (some 35) HT_ fun K hK => ?_
             refine goes_ Try.func67 (by kernel_rfl) rfl #[.slice A276_0 (rd_L2 x6_2 x24_2).length c276_0, .agg #[.int .i64 ((rd_T28 l1 x24_2).f0), .int .i64 ((rd_T28 l1 x24_2).f1), .int .i64 ((rd_T28 l1 x24_2).f2.f0), .int .i64 ((rd_T28 l1 x24_2).f2.f1), .int .i64 ((rd_T28 l1 x24_2).f2.f2), .int .i64 ((rd_T28 l1 x24_2).f2.f3), .int .i64 ((rd_T28 l1 x24_2).f2.f4), .int .i64 ((rd_T28 l1 x24_2).f3.f0), .int .i64 ((rd_T28 l1 x24_2).f3.f1), .int .i64 ((rd_T28 l1 x24_2).f3.f2), .int .i64 ((rd_T28 l1 x24_2).f3.f3), .int .i64 ((rd_T28 l1 x24_2).f3.f4)]] (by rfl) rfl rfl argsB ?_
             with_reducible refine (impl_apply.calls k2 _ _ (rd_L2 x6_2 x24_2) ((rd_T28 l1 x24_2).f0) ((rd_T28 l1 x24_2).f1) ((rd_T28 l1 x24_2).f2.f0) ((rd_T28 l1 x24_2).f2.f1) ((rd_T28 l1 x24_2).f2.f2) ((rd_T28 l1 x24_2).f2.f3) ((rd_T28 l1 x24_2).f2.f4) ((rd_T28 l1 x24_2).f3.f0) ((rd_T28 l1 x24_2).f3.f1) ((rd_T28 l1 x24_2).f3.f2) ((rd_T28 l1 x24_2).f3.f3) ((rd_T28 l1 x24_2).f3.f4) t277 true _ ?side1 ?side2 A18.out).mono ?_
             (case side1 => repeat (first | exact (by repeat (first | (with_reducible exact HR276_0.out) | (with_reducible refine Kd.C_alloc ?_ _) | (with_reducible refine Kd.C_drewN ?_ _) | (with_reducible refine Kd.C_drew ?_) | exact HR276_0.out)) | (with_reducible refine Kd.C_alloc ?_ _) | (with_reducible refine Kd.C_drewN ?_ _) | (with_reducible refine Kd.C_drew ?_)))
             (case side2 => exact HC276_0.out)
             rintro e w26 ⟨v278, rfl, ho0, hb⟩
             have HS12_ := (hb.cell (World.block_lt_of_cell? _ _ (hHeld.2.2.2.2.2.2.2.2.2.2.2.2))).trans (hHeld.2.2.2.2.2.2.2.2.2.2.2.2)
             refine ⟨_, rfl, ?_⟩
             have HO279 := Aside0.mk (Kd.R_lower (Kd.R_new' ho0 (Kd.R_lt (upR HL276_0.out))) (below_size (bW HB)))
             replace HO_6 := Aside0.mk (Kd.S_elder' (by (with_reducible repeat (first | apply Kd.S_alloc | apply Kd.S_drewN | apply Kd.S_drew)); exact HO_6.out) (Kd.R_base ho0) hb)
             replace HL276_0 := Aside0.mk (Kd.R_elder' (upR HL276_0.out) (Kd.R_base ho0) hb)
             replace BK275 := uK BK275 hb
             replace HR276_0 := Aside0.mk (Kd.C_below (by repeat (first | (with_reducible exact HR276_0.out) | (with_reducible refine Kd.C_alloc ?_ _) | (with_reducible refine Kd.C_drewN ?_ _) | (with_reducible refine Kd.C_drew ?_) | exact HR276_0.out)) hb)
             replace HB := uB HB hb
             (try clear hb)
             (try clear hk)
             (try clear ho0)
             refine hK.out _ _ ⟨cb BK275 0, cb BK275 1, cb BK275 2, cb BK275 3, cb BK275 4, cb BK275 5, cb BK275 6, cb BK275 7, cb BK275 8, cb BK275 9, cb BK275 10, cb BK275 11, HS12_⟩ (fun hHeld => ?_)
             clear hK K
             refine nA ?_ (some 35)
             refine pA 6 29 HT_ ?_
             refine pA 7 36 HT_ ?_
             refine pA 8 37 HT_ ?_
             refine pA 9 9 HT_ ?_
             refine pA 10 10 HT_ ?_
             refine done_ (done_of HT_.out (by kernel_rfl)) ?_
             obtain ⟨Ao28, co28, eo28⟩ := Kd.R_slice HO279.out
             subst eo28
             try go_wp2_with (first | ((with_reducible refine gate_builtin (b := .append) (xs := #[.tmp 40, .tmp 42]) rfl ?_); (try (refine gate_guard (by rfl) ?_; dsimp only)); at_builtin; refine Kd.S_append (Kd.slice 26 k26) (w0 := w) w.heap.size rfl (.tmp 40) (.tmp 42) 84 39 (.slice none 0 0) 24 rfl Try.underlying84 info39 rfl (by decide) (by omega) (.slice (some ad276) x6_2.length co25) x6_2 t277 [.slice Ao28 t277.length co28] (fun _ => True) (fun k_ => some k_ = (.slice Ao28 t277.length co28 : Value).ownBlock) rfl rfl ?aP (fun k_ hk_ => ((Kd.R_mono (ok' := fun k_ => ((fun _ => True)) k_ ∧ some k_ ≠ (.slice (some ad276) x6_2.length co25 : Value).ownBlock) (Kd.R_apart' (HO279.out) (Kd.S_typed HO_6.out) (by decide)) (fun k_ hk => ⟨trivial, hk.2⟩))).1 k_ hk_.symm) ?aF ?aO ?aB ?aS ?aL ?_; (case aP => exact Kd.M_row (Kd.R_mono (Kd.R_tight rfl (Kd.R_mono (ok' := fun k_ => ((fun _ => True)) k_ ∧ some k_ ≠ (.slice (some ad276) x6_2.length co25 : Value).ownBlock) (Kd.R_apart' (HO279.out) (Kd.S_typed HO_6.out) (by decide)) (fun k_ hk => ⟨trivial, hk.2⟩))) (fun _ h_ => h_))); (case aB => exact (bW HB)); (case aF => exact (fun _ _ => trivial)); (case aO => exact (by (with_reducible repeat (first | apply Kd.S_alloc | apply Kd.S_drewN | apply Kd.S_drew)); exact Kd.S_mono HO_6.out (fun k_ hk => ⟨trivial, fun e_ => hk.2 e_⟩))); (case aS => exact (below_size (bW HB))); (case aL => have := LMc20.out; omega); intro v282 w27 ho hb hg hat; rw [← Ny281.out] at ho; have HO283 := Aside0.mk (ho); replace BK275 := Aside0.mk (blk_grown (g := gb275) (o := .cells #[.int .i64 ((rd_T28 l1 x24_2).f0), .int .i64 ((rd_T28 l1 x24_2).f1), .int .i64 ((rd_T28 l1 x24_2).f2.f0), .int .i64 ((rd_T28 l1 x24_2).f2.f1), .int .i64 ((rd_T28 l1 x24_2).f2.f2), .int .i64 ((rd_T28 l1 x24_2).f2.f3), .int .i64 ((rd_T28 l1 x24_2).f2.f4), .int .i64 ((rd_T28 l1 x24_2).f3.f0), .int .i64 ((rd_T28 l1 x24_2).f3.f1), .int .i64 ((rd_T28 l1 x24_2).f3.f2), .int .i64 ((rd_T28 l1 x24_2).f3.f3), .int .i64 ((rd_T28 l1 x24_2).f3.f4)] 28 (0, 0)) (upK BK275.out) hg (Kd.S_ne HO_6.out BK275.out (by decide))); replace HL276_0 := Aside0.mk (Kd.R_after (ok := (fun k_ => some k_ ≠ (.slice Ao28 t277.length co28 : Value).ownBlock)) (by (with_reducible repeat (first | apply Kd.R_alloc | apply Kd.R_drewN | apply Kd.R_drew)); exact Kd.R_mono HL276_0.out (fun _ hk => ⟨hk.2, hk.1.2⟩)) hg hat); replace HB := Aside0.mk (hb); clear HO_6 HO279; clear ho hb hg hat))
             go_roundg k2
             case measure => have := HJ2.out; have := HK2.out; omega
             case rel => exact ⟨(y281), (wrap64 (x24_2 + 1)), rB, H', ⟨by have := HJ2.out; have := HK2.out; omega⟩, ⟨by (with_reducible repeat (first | apply Kd.S_alloc | apply Kd.S_drewN | apply Kd.S_drew)); exact HO283.out⟩, (aB HB)⟩
            ·rw [if_neg c20] at H
             exact absurd H (by simp)
           ·replace H := iF (by decide) H
            simp only [Option.some.injEq, Prod.mk.injEq] at H
            obtain ⟨rfl, rfl⟩ := H
            have p274 : 0 ≤ (x24_2 : Int) := of_decide_eq_true asmB
            have q274 : x24_2 < (l1.length : Int) := of_decide_eq_true asmB
            obtain ⟨ad274, e274, hx274_0, hx274_1, hx274_2, hx274_3, hx274_4, hx274_5, hx274_6, hx274_7, hx274_8, hx274_9, hx274_10, hx274_11⟩ := at_T28 HR1.out x24_2 p274 q274
            cases e274
            replace hx274_0 := bx HB.out hx274_0
            replace hx274_1 := bx HB.out hx274_1
            replace hx274_2 := bx HB.out hx274_2
            replace hx274_3 := bx HB.out hx274_3
            replace hx274_4 := bx HB.out hx274_4
            replace hx274_5 := bx HB.out hx274_5
            replace hx274_6 := bx HB.out hx274_6
            replace hx274_7 := bx HB.out hx274_7
            replace hx274_8 := bx HB.out hx274_8
            replace hx274_9 := bx HB.out hx274_9
            replace hx274_10 := bx HB.out hx274_10
            replace hx274_11 := bx HB.out hx274_11
            replace p274 := eq_true p274
            replace q274 := eq_true q274
            try go_wp2_with (first | ((with_reducible refine gD 8 ?_); (try (refine gate_guard (by rfl) ?_; dsimp only)); refine bxE 8 28 #[.int .i64 0, .int .i64 0, .int .i64 0, .int .i64 0, .int .i64 0, .int .i64 0, .int .i64 0, .int .i64 0, .int .i64 0, .int .i64 0, .int .i64 0, .int .i64 0] fun gb275 w29 hg hbox hb => ?_; have BK275 := Aside0.mk hbox; have GE275 := gB HB hg; replace HO_6 := Aside0.mk (Kd.S_below (by (with_reducible repeat (first | apply Kd.S_alloc | apply Kd.S_drewN | apply Kd.S_drew)); exact HO_6.out) hb); replace HB := uB HB hb; clear hb hbox hg; have ⟨hcz30_0, hcz30_1, hcz30_2, hcz30_3, hcz30_4, hcz30_5, hcz30_6, hcz30_7, hcz30_8, hcz30_9, hcz30_10, hcz30_11, hfz30_0⟩ := cz12 BK275))
            have n0_ : Aside0 (Kd.S (Kd.slice 26 k26) 39 ((((((((((((w29.setCell ⟨gb275, 0, none⟩ (.int .i64 ((rd_T28 l1 x24_2).f0))).setCell ⟨gb275, 1, none⟩ (.int .i64 ((rd_T28 l1 x24_2).f1))).setCell ⟨gb275, 2, none⟩ (.int .i64 ((rd_T28 l1 x24_2).f2.f0))).setCell ⟨gb275, 3, none⟩ (.int .i64 ((rd_T28 l1 x24_2).f2.f1))).setCell ⟨gb275, 4, none⟩ (.int .i64 ((rd_T28 l1 x24_2).f2.f2))).setCell ⟨gb275, 5, none⟩ (.int .i64 ((rd_T28 l1 x24_2).f2.f3))).setCell ⟨gb275, 6, none⟩ (.int .i64 ((rd_T28 l1 x24_2).f2.f4))).setCell ⟨gb275, 7, none⟩ (.int .i64 ((rd_T28 l1 x24_2).f3.f0))).setCell ⟨gb275, 8, none⟩ (.int .i64 ((rd_T28 l1 x24_2).f3.f1))).setCell ⟨gb275, 9, none⟩ (.int .i64 ((rd_T28 l1 x24_2).f3.f2))).setCell ⟨gb275, 10, none⟩ (.int .i64 ((rd_T28 l1 x24_2).f3.f3))).setCell ⟨gb275, 11, none⟩ (.int .i64 ((rd_T28 l1 x24_2).f3.f4))) w.heap.size (fun _ => True) u6 x6_2) := ⟨by (with_reducible repeat (first | apply Kd.S_alloc | apply Kd.S_drewN | apply Kd.S_drew)); exact Kd.S_mono (Kd.S_far (p := ⟨gb275, 11, none⟩) (Kd.S_far (p := ⟨gb275, 10, none⟩) (Kd.S_far (p := ⟨gb275, 9, none⟩) (Kd.S_far (p := ⟨gb275, 8, none⟩) (Kd.S_far (p := ⟨gb275, 7, none⟩) (Kd.S_far (p := ⟨gb275, 6, none⟩) (Kd.S_far (p := ⟨gb275, 5, none⟩) (Kd.S_far (p := ⟨gb275, 4, none⟩) (Kd.S_far (p := ⟨gb275, 3, none⟩) (Kd.S_far (p := ⟨gb275, 2, none⟩) (Kd.S_far (p := ⟨gb275, 1, none⟩) (Kd.S_far (p := ⟨gb275, 0, none⟩) (Kd.S_types HO_6.out BK275.out (by decide)) (fun _ hk => hk.2) (.int .i64 ((rd_T28 l1 x24_2).f0))) (fun _ hk => hk.2) (.int .i64 ((rd_T28 l1 x24_2).f1))) (fun _ hk => hk.2) (.int .i64 ((rd_T28 l1 x24_2).f2.f0))) (fun _ hk => hk.2) (.int .i64 ((rd_T28 l1 x24_2).f2.f1))) (fun _ hk => hk.2) (.int .i64 ((rd_T28 l1 x24_2).f2.f2))) (fun _ hk => hk.2) (.int .i64 ((rd_T28 l1 x24_2).f2.f3))) (fun _ hk => hk.2) (.int .i64 ((rd_T28 l1 x24_2).f2.f4))) (fun _ hk => hk.2) (.int .i64 ((rd_T28 l1 x24_2).f3.f0))) (fun _ hk => hk.2) (.int .i64 ((rd_T28 l1 x24_2).f3.f1))) (fun _ hk => hk.2) (.int .i64 ((rd_T28 l1 x24_2).f3.f2))) (fun _ hk => hk.2) (.int .i64 ((rd_T28 l1 x24_2).f3.f3))) (fun _ hk => hk.2) (.int .i64 ((rd_T28 l1 x24_2).f3.f4))) (fun _ hk => trivial)⟩
            have n1_ : Aside0 (((((((((((((w29.setCell ⟨gb275, 0, none⟩ (.int .i64 ((rd_T28 l1 x24_2).f0))).setCell ⟨gb275, 1, none⟩ (.int .i64 ((rd_T28 l1 x24_2).f1))).setCell ⟨gb275, 2, none⟩ (.int .i64 ((rd_T28 l1 x24_2).f2.f0))).setCell ⟨gb275, 3, none⟩ (.int .i64 ((rd_T28 l1 x24_2).f2.f1))).setCell ⟨gb275, 4, none⟩ (.int .i64 ((rd_T28 l1 x24_2).f2.f2))).setCell ⟨gb275, 5, none⟩ (.int .i64 ((rd_T28 l1 x24_2).f2.f3))).setCell ⟨gb275, 6, none⟩ (.int .i64 ((rd_T28 l1 x24_2).f2.f4))).setCell ⟨gb275, 7, none⟩ (.int .i64 ((rd_T28 l1 x24_2).f3.f0))).setCell ⟨gb275, 8, none⟩ (.int .i64 ((rd_T28 l1 x24_2).f3.f1))).setCell ⟨gb275, 9, none⟩ (.int .i64 ((rd_T28 l1 x24_2).f3.f2))).setCell ⟨gb275, 10, none⟩ (.int .i64 ((rd_T28 l1 x24_2).f3.f3))).setCell ⟨gb275, 11, none⟩ (.int .i64 ((rd_T28 l1 x24_2).f3.f4))).heap[gb275]? = some (.cells #[.int .i64 ((rd_T28 l1 x24_2).f0), .int .i64 ((rd_T28 l1 x24_2).f1), .int .i64 ((rd_T28 l1 x24_2).f2.f0), .int .i64 ((rd_T28 l1 x24_2).f2.f1), .int .i64 ((rd_T28 l1 x24_2).f2.f2), .int .i64 ((rd_T28 l1 x24_2).f2.f3), .int .i64 ((rd_T28 l1 x24_2).f2.f4), .int .i64 ((rd_T28 l1 x24_2).f3.f0), .int .i64 ((rd_T28 l1 x24_2).f3.f1), .int .i64 ((rd_T28 l1 x24_2).f3.f2), .int .i64 ((rd_T28 l1 x24_2).f3.f3), .int .i64 ((rd_T28 l1 x24_2).f3.f4)] 28 (0, 0))) := ⟨by exact pW BK275⟩
            have n2_ : Aside0 (Below w.heap.size w ((((((((((((w29.setCell ⟨gb275, 0, none⟩ (.int .i64 ((rd_T28 l1 x24_2).f0))).setCell ⟨gb275, 1, none⟩ (.int .i64 ((rd_T28 l1 x24_2).f1))).setCell ⟨gb275, 2, none⟩ (.int .i64 ((rd_T28 l1 x24_2).f2.f0))).setCell ⟨gb275, 3, none⟩ (.int .i64 ((rd_T28 l1 x24_2).f2.f1))).setCell ⟨gb275, 4, none⟩ (.int .i64 ((rd_T28 l1 x24_2).f2.f2))).setCell ⟨gb275, 5, none⟩ (.int .i64 ((rd_T28 l1 x24_2).f2.f3))).setCell ⟨gb275, 6, none⟩ (.int .i64 ((rd_T28 l1 x24_2).f2.f4))).setCell ⟨gb275, 7, none⟩ (.int .i64 ((rd_T28 l1 x24_2).f3.f0))).setCell ⟨gb275, 8, none⟩ (.int .i64 ((rd_T28 l1 x24_2).f3.f1))).setCell ⟨gb275, 9, none⟩ (.int .i64 ((rd_T28 l1 x24_2).f3.f2))).setCell ⟨gb275, 10, none⟩ (.int .i64 ((rd_T28 l1 x24_2).f3.f3))).setCell ⟨gb275, 11, none⟩ (.int .i64 ((rd_T28 l1 x24_2).f3.f4)))) := (aB HB)
            (try clear HO_6)
            (try clear BK275)
            (try clear HB)
            generalize ((((((((((((w29.setCell ⟨gb275, 0, none⟩ (.int .i64 ((rd_T28 l1 x24_2).f0))).setCell ⟨gb275, 1, none⟩ (.int .i64 ((rd_T28 l1 x24_2).f1))).setCell ⟨gb275, 2, none⟩ (.int .i64 ((rd_T28 l1 x24_2).f2.f0))).setCell ⟨gb275, 3, none⟩ (.int .i64 ((rd_T28 l1 x24_2).f2.f1))).setCell ⟨gb275, 4, none⟩ (.int .i64 ((rd_T28 l1 x24_2).f2.f2))).setCell ⟨gb275, 5, none⟩ (.int .i64 ((rd_T28 l1 x24_2).f2.f3))).setCell ⟨gb275, 6, none⟩ (.int .i64 ((rd_T28 l1 x24_2).f2.f4))).setCell ⟨gb275, 7, none⟩ (.int .i64 ((rd_T28 l1 x24_2).f3.f0))).setCell ⟨gb275, 8, none⟩ (.int .i64 ((rd_T28 l1 x24_2).f3.f1))).setCell ⟨gb275, 9, none⟩ (.int .i64 ((rd_T28 l1 x24_2).f3.f2))).setCell ⟨gb275, 10, none⟩ (.int .i64 ((rd_T28 l1 x24_2).f3.f3))).setCell ⟨gb275, 11, none⟩ (.int .i64 ((rd_T28 l1 x24_2).f3.f4))) = w31 at n0_ n1_ n2_ ⊢
            have HO_6 := n0_
            have BK275 := n1_
            have HB := n2_
            clear n0_ n1_ n2_
            replace HO_6 := Aside0.mk (Kd.S_drew HO_6.out)
            replace BK275 := dK BK275
            replace HB := Aside0.mk (below_drew1 HB.out)
            obtain ⟨Ao33, co33, eo33⟩ := Kd.S_slice HO_6.out
            (first | subst eo33 | (injection eo33 with f1_ f2_ f3_; have f4_ := f1_.symm; have f5_ := f3_.symm; clear f1_ f2_ f3_; subst f4_; subst f5_))
            have p276 : 0 ≤ (x24_2 : Int) := of_decide_eq_true asmB
            have q276 : x24_2 < (x6_2.length : Int) := of_decide_eq_true asmB
            obtain ⟨ad276, A276_0, c276_0, e276, hx276_0, hl276_0, hi276_0⟩ := at_L2 (Kd.S_reads' HO_6.out).2.2 x24_2 p276 q276
            cases e276
            obtain ⟨ce276, hce276, hMe276, hcc276⟩ := Kd.S_get HO_6.out [] x24_2 p276 (by first | exact q276 | exact of_decide_eq_true asmB | (have e_ := (Kd.S_reads' HO_6.out).1; omega))
            obtain ⟨ve276_0, rfl, ge276_0⟩ := hMe276
            have hv276_0 := hcc276 0 _ rfl
            rw [Nat.add_zero, show ((Kd.slice 26 k26)).sz = 1 from rfl, Nat.mul_one] at hv276_0
            replace hv276_0 := Option.some.inj (hv276_0.symm.trans hx276_0)
            rw [hv276_0] at ge276_0
            have HL276_0 := Aside0.mk (show Kd.R k26 26 _ _ _ _ (rd_L2 x6_2 x24_2) from ge276_0)
            clear hv276_0 ge276_0
            clear hcc276 hce276
            have HR276_0 := Aside0.mk hi276_0
            have HC276_0 := Aside0.mk hl276_0
            clear hi276_0 hl276_0
            replace p276 := eq_true p276
            replace q276 := eq_true q276
            refine sA (n := 11) (S := fun w' => w'.cell? ⟨gb275, 0, none⟩ = some (.int .i64 ((rd_T28 l1 x24_2).f0)) ∧ w'.cell? ⟨gb275, 1, none⟩ = some (.int .i64 ((rd_T28 l1 x24_2).f1)) ∧ w'.cell? ⟨gb275, 2, none⟩ = some (.int .i64 ((rd_T28 l1 x24_2).f2.f0)) ∧ w'.cell? ⟨gb275, 3, none⟩ = some (.int .i64 ((rd_T28 l1 x24_2).f2.f1)) ∧ w'.cell? ⟨gb275, 4, none⟩ = some (.int .i64 ((rd_T28 l1 x24_2).f2.f2)) ∧ w'.cell? ⟨gb275, 5, none⟩ = some (.int .i64 ((rd_T28 l1 x24_2).f2.f3)) ∧ w'.cell? ⟨gb275, 6, none⟩ = some (.int .i64 ((rd_T28 l1 x24_2).f2.f4)) ∧ w'.cell? ⟨gb275, 7, none⟩ = some (.int .i64 ((rd_T28 l1 x24_2).f3.f0)) ∧ w'.cell? ⟨gb275, 8, none⟩ = some (.int .i64 ((rd_T28 l1 x24_2).f3.f1)) ∧ w'.cell? ⟨gb275, 9, none⟩ = some (.int .i64 ((rd_T28 l1 x24_2).f3.f2)) ∧ w'.cell? ⟨gb275, 10, none⟩ = some (.int .i64 ((rd_T28 l1 x24_2).f3.f3)) ∧ w'.cell? ⟨gb275, 11, none⟩ = some (.int .i64 ((rd_T28 l1 x24_2).f3.f4)) ∧ w'.cell? (ad276.add (x24_2).toNat) = some (.slice A276_0 (rd_L2 x6_2 x24_2).length c276_0)) (ds := []) impl_versions.tab7 impl_versions.bits7 #[false, false, false, false, false, false, false, false, false, false, false] ⟨cb BK275 0, cb BK275 1, cb BK275 2, cb BK275 3, cb BK275 4, cb BK275 5, cb BK275 6, cb BK275 7, cb BK275 8, cb BK275 9, cb BK275 10, cb BK275 11, hx276_0⟩ fun hHeld HT_ HW_ => ?_
            generalize w31.drew = w32 at HO_6 BK275 HB HL276_0 HR276_0 hx276_0 hHeld ⊢
            refine pA 0 30 HT_ ?_
            refine pA 1 31 HT_ ?_
            refine pA 2 32 HT_ ?_
            refine tA 3 33 HT_ HW_ hHeld ?_
            refine tA 4 34 HT_ HW_ hHeld ?_
            refine oA 5 (some 35) HT_ fun K hK => ?_
            refine goes_ Try.func67 (by kernel_rfl) rfl #[.slice A276_0 (rd_L2 x6_2 x24_2).length c276_0, .agg #[.int .i64 ((rd_T28 l1 x24_2).f0), .int .i64 ((rd_T28 l1 x24_2).f1), .int .i64 ((rd_T28 l1 x24_2).f2.f0), .int .i64 ((rd_T28 l1 x24_2).f2.f1), .int .i64 ((rd_T28 l1 x24_2).f2.f2), .int .i64 ((rd_T28 l1 x24_2).f2.f3), .int .i64 ((rd_T28 l1 x24_2).f2.f4), .int .i64 ((rd_T28 l1 x24_2).f3.f0), .int .i64 ((rd_T28 l1 x24_2).f3.f1), .int .i64 ((rd_T28 l1 x24_2).f3.f2), .int .i64 ((rd_T28 l1 x24_2).f3.f3), .int .i64 ((rd_T28 l1 x24_2).f3.f4)]] (by rfl) rfl rfl argsB ?_
            with_reducible refine (impl_apply.calls k2 _ _ (rd_L2 x6_2 x24_2) ((rd_T28 l1 x24_2).f0) ((rd_T28 l1 x24_2).f1) ((rd_T28 l1 x24_2).f2.f0) ((rd_T28 l1 x24_2).f2.f1) ((rd_T28 l1 x24_2).f2.f2) ((rd_T28 l1 x24_2).f2.f3) ((rd_T28 l1 x24_2).f2.f4) ((rd_T28 l1 x24_2).f3.f0) ((rd_T28 l1 x24_2).f3.f1) ((rd_T28 l1 x24_2).f3.f2) ((rd_T28 l1 x24_2).f3.f3) ((rd_T28 l1 x24_2).f3.f4) t277 false _ ?side1 ?side2 A18.out).mono ?_
            (case side1 => repeat (first | exact (by repeat (first | (with_reducible exact HR276_0.out) | (with_reducible refine Kd.C_alloc ?_ _) | (with_reducible refine Kd.C_drewN ?_ _) | (with_reducible refine Kd.C_drew ?_) | exact HR276_0.out)) | (with_reducible refine Kd.C_alloc ?_ _) | (with_reducible refine Kd.C_drewN ?_ _) | (with_reducible refine Kd.C_drew ?_)))
            (case side2 => exact HC276_0.out)
            rintro e w34 ⟨v278, rfl, ho0, hb⟩
            have HS12_ := (hb.cell (World.block_lt_of_cell? _ _ (hHeld.2.2.2.2.2.2.2.2.2.2.2.2))).trans (hHeld.2.2.2.2.2.2.2.2.2.2.2.2)
            refine ⟨_, rfl, ?_⟩
            have HO279 := Aside0.mk (Kd.R_lower (Kd.R_new' ho0 (Kd.R_lt (upR HL276_0.out))) (below_size (bW HB)))
            replace HO_6 := Aside0.mk (Kd.S_elder' (by (with_reducible repeat (first | apply Kd.S_alloc | apply Kd.S_drewN | apply Kd.S_drew)); exact HO_6.out) (Kd.R_base ho0) hb)
            replace HL276_0 := Aside0.mk (Kd.R_elder' (upR HL276_0.out) (Kd.R_base ho0) hb)
            replace BK275 := uK BK275 hb
            replace HR276_0 := Aside0.mk (Kd.C_below (by repeat (first | (with_reducible exact HR276_0.out) | (with_reducible refine Kd.C_alloc ?_ _) | (with_reducible refine Kd.C_drewN ?_ _) | (with_reducible refine Kd.C_drew ?_) | exact HR276_0.out)) hb)
            replace HB := uB HB hb
            (try clear hb)
            (try clear hk)
            (try clear ho0)
            refine hK.out _ _ ⟨cb BK275 0, cb BK275 1, cb BK275 2, cb BK275 3, cb BK275 4, cb BK275 5, cb BK275 6, cb BK275 7, cb BK275 8, cb BK275 9, cb BK275 10, cb BK275 11, HS12_⟩ (fun hHeld => ?_)
            clear hK K
            refine nA ?_ (some 35)
            refine pA 6 29 HT_ ?_
            refine pA 7 36 HT_ ?_
            refine pA 8 37 HT_ ?_
            refine pA 9 9 HT_ ?_
            refine pA 10 10 HT_ ?_
            refine done_ (done_of HT_.out (by kernel_rfl)) ?_
            try go_wp2
            go_ret2
            exact ⟨_, eB, by first | exact Kd.S_nil _ _ _ _ _ | exact Kd.N_nil _ _ _ _ _ | exact Kd.V_nil _ _ _ _ _ | exact Kd.Q_nil _ _ _ _ _ | exact Kd.R_nil _ _ _ _ _, (bW HB)⟩
          ·rw [if_neg c17] at H
           exact absurd H (by simp)
         ·rw [if_neg c16] at H
          exact absurd H (by simp)
        ·rw [if_neg c15] at H
         exact absurd H (by simp)
       ·simp only [Option.some.injEq, Prod.mk.injEq] at H
        obtain ⟨rfl, rfl⟩ := H
        go_wp2
        go_ret2
        exact ⟨_, eB, by (with_reducible repeat (first | apply Kd.S_alloc | apply Kd.S_drewN | apply Kd.S_drew)); exact HO_6.out, (bW HB)⟩
    ·rw [if_neg c10] at H
     exact absurd H (by simp)

/-! ### impl_IsHistory: function 32 -/
def impl_IsHistory.f (k : Nat) (l0 : List (S26)) (l1 : List (S28)) : Option (Bool) := (impl_versions.f k l0 l1).bind fun bt284 => (some bt284.2)
theorem impl_IsHistory.mono : ∀ a0 a1 k, LeO (impl_IsHistory.f k a0 a1) (impl_IsHistory.f (k + 1) a0 a1) := by
 intro a0 a1 k
 unfold impl_IsHistory.f
 repeat' with_reducible first | apply impl_versions.mono | exact LeO.refl _ | exact LeO.none _ | refine LeO.ite ?_ ?_ | refine LeO.bind ?_ (fun _ => ?_)
set_option maxHeartbeats 8000000 in
set_option maxRecDepth 100000 in
theorem impl_IsHistory.calls (k : Nat) (A0 : Option Addr) (c0 : Nat) (l0 : List (S26)) (A1 : Option Addr) (c1 : Nat) (l1 : List (S28)) (r : Bool) (w : World) (hr0 : Kd.C k26 w A0 l0.length l0) (hc0 : l0.length ≤ c0) (hr1 : Kd.C k28 w A1 l1.length l1) (hc1 : l1.length ≤ c1) (h : impl_IsHistory.f k l0 l1 = some r) :
  Calls Try.prog 32 #[.slice A0 l0.length c0, .slice A1 l1.length c1] w fun e w' => e = .returned (.bool r) ∧ Below w.heap.size w w' := by
 have HR0 := Aside0.mk hr0
 have HC0 := Aside0.mk hc0
 clear hr0 hc0
 have HR1 := Aside0.mk hr1
 have HC1 := Aside0.mk hc1
 clear hr1 hc1
 have HB := Aside0.mk (Below.refl w.heap.size w)
 have H := h
 clear h
 unfold impl_IsHistory.f at H
 replace H := Option.bind_eq_some_iff.mp H
 obtain ⟨⟨t284, t285⟩, A30, H⟩ := H
 replace H : (some t285) = some r := H
 have A3 := Aside0.mk A30
 clear A30
 obtain rfl := Option.some.inj H
 go_enter Try.func32, Try.ntmps32
 go_wp2_with (first | ((with_reducible refine gate_callee (f := 69) rfl ?_); refine goesL_ (some 10) rfl rfl Try.func69 (by kernel_rfl) rfl #[.slice A0 l0.length c0, .slice A1 l1.length c1] rfl argsB ?_; (with_reducible refine (impl_versions.calls k _ _ l0 _ _ l1 t284 t285 _ ?side1 ?side2 ?side3 ?side4 A3.out).mono ?_); (case side1 => repeat (first | exact HR0.out | (with_reducible refine Kd.C_alloc ?_ _) | (with_reducible refine Kd.C_drewN ?_ _) | (with_reducible refine Kd.C_drew ?_))); (case side2 => exact HC0.out); (case side3 => repeat (first | exact HR1.out | (with_reducible refine Kd.C_alloc ?_ _) | (with_reducible refine Kd.C_drewN ?_ _) | (with_reducible refine Kd.C_drew ?_))); (case side4 => exact HC1.out); rintro e w4 ⟨v286, rfl, ho0, hb⟩; refine ⟨_, rfl, ?_⟩; have HO287 := Aside0.mk (Kd.S_lower ho0 (below_size (bW HB))); replace HB := uB HB hb; (try clear hb); (try clear ho0)))
 go_ret
 exact ⟨eB, (bW HB)⟩

/-! ### spec_VersionAt: function 33 -/
def spec_VersionAt.f (k : Nat) (l0 : List (S26)) (l1 : List (S28)) (a2 : Int) : Option ((List (S26)) × Bool) := (spec_l19Good.f k l0 l1).bind fun t288 => (if t288 = true then ((spec_l1In.f a2 0 (l1.length : Int)).bind fun t289 => (if t289 = true then ((spec_l19Run.f k l0 l1 a2).bind fun bt290 => (some (bt290.1, true))) else (some ((([] : List (S26))), false)))) else (some ((([] : List (S26))), false)))
theorem spec_VersionAt.mono : ∀ a0 a1 a2 k, LeO (spec_VersionAt.f k a0 a1 a2) (spec_VersionAt.f (k + 1) a0 a1 a2) := by
 intro a0 a1 a2 k
 unfold spec_VersionAt.f
 repeat' with_reducible first | apply spec_l19Good.mono | apply spec_l19Run.mono | exact LeO.refl _ | exact LeO.none _ | refine LeO.ite ?_ ?_ | refine LeO.bind ?_ (fun _ => ?_)
set_option maxHeartbeats 8000000 in
set_option maxRecDepth 100000 in
theorem spec_VersionAt.calls (k : Nat) (A0 : Option Addr) (c0 : Nat) (l0 : List (S26)) (A1 : Option Addr) (c1 : Nat) (l1 : List (S28)) (a2 : Int) (r1 : List (S26)) (r2 : Bool) (w : World) (hr0 : Kd.C k26 w A0 l0.length l0) (hc0 : l0.length ≤ c0) (hr1 : Kd.C k28 w A1 l1.length l1) (hc1 : l1.length ≤ c1) (h : spec_VersionAt.f k l0 l1 a2 = some (r1, r2)) :
  Calls Try.prog 33 #[.slice A0 l0.length c0, .slice A1 l1.length c1, .int .i64 a2] w fun e w' => ∃ v0_ : Value, e = .returned (.tuple #[v0_, .bool r2]) ∧ Kd.R k26 26 w' w.heap.size (fun _ => True) v0_ r1 ∧ Below w.heap.size w w' := by
 have HR0 := Aside0.mk hr0
 have HC0 := Aside0.mk hc0
 clear hr0 hc0
 have HR1 := Aside0.mk hr1
 have HC1 := Aside0.mk hc1
 clear hr1 hc1
 have HB := Aside0.mk (Below.refl w.heap.size w)
 have H := h
 clear h
 unfold spec_VersionAt.f at H
 replace H := bA H
 obtain ⟨t288, A4, H⟩ := H
 rcases Bool.eq_false_or_eq_true t288 with rfl | rfl
 ·replace H := iT rfl H
  replace H := bA H
  obtain ⟨t289, A6, H⟩ := H
  rcases Bool.eq_false_or_eq_true t289 with rfl | rfl
  ·replace H := iT rfl H
   replace H := Option.bind_eq_some_iff.mp H
   obtain ⟨⟨t290, t291⟩, A80, H⟩ := H
   replace H : (some (t290, true)) = some (r1, r2) := H
   have A8 := Aside0.mk A80
   clear A80
   simp only [Option.some.injEq, Prod.mk.injEq] at H
   obtain ⟨rfl, rfl⟩ := H
   go_enter Try.func33, Try.ntmps33
   go_wp2_with (first | ((with_reducible refine gC 68 ?_); refine lA (some 12) Try.func68 (spec_l19Good.calls k _ _ l0 _ _ l1 true _ ?side1 ?side2 ?side3 ?side4 A4.out) ?_; (case side1 => repeat (first | exact HR0.out | (with_reducible refine Kd.C_alloc ?_ _) | (with_reducible refine Kd.C_drewN ?_ _) | (with_reducible refine Kd.C_drew ?_))); (case side2 => exact HC0.out); (case side3 => repeat (first | exact HR1.out | (with_reducible refine Kd.C_alloc ?_ _) | (with_reducible refine Kd.C_drewN ?_ _) | (with_reducible refine Kd.C_drew ?_))); (case side4 => exact HC1.out); intro w9 hb; replace HB := uB HB hb; (try clear hb); (try clear hk)) | (go_at_call 70; (with_reducible refine (spec_l1In.calls a2 0 (l1.length : Int) true _ A6.out).mono ?_); rintro e w' ⟨rfl, ⟨nd, rfl⟩⟩) | ((with_reducible refine gate_callee (f := 71) rfl ?_); refine goesL_ (some 26) rfl rfl Try.func71 (by kernel_rfl) rfl #[.slice A0 l0.length c0, .slice A1 l1.length c1, .int .i64 a2] rfl argsB ?_; (with_reducible refine (spec_l19Run.calls k _ _ l0 _ _ l1 a2 t290 t291 _ ?side1 ?side2 ?side3 ?side4 A8.out).mono ?_); (case side1 => repeat (first | exact (Kd.C_below HR0.out (bW HB)) | (with_reducible refine Kd.C_alloc ?_ _) | (with_reducible refine Kd.C_drewN ?_ _) | (with_reducible refine Kd.C_drew ?_))); (case side2 => exact HC0.out); (case side3 => repeat (first | exact (Kd.C_below HR1.out (bW HB)) | (with_reducible refine Kd.C_alloc ?_ _) | (with_reducible refine Kd.C_drewN ?_ _) | (with_reducible refine Kd.C_drew ?_))); (case side4 => exact HC1.out); rintro e w10 ⟨v292, rfl, ho0, hb⟩; refine ⟨_, rfl, ?_⟩; have HO293 := Aside0.mk (Kd.R_lower ho0 (below_size (bW HB))); replace HB := uB HB hb; (try clear hb); (try clear hk); (try clear ho0)))
   go_ret2
   exact ⟨_, eB, upR HO293.out, (bW HB)⟩
  ·replace H := iF (by decide) H
   obtain ⟨y294, hy294⟩ : ∃ y_ : List (S26), y_ = (([] : List (S26))) := ⟨_, rfl⟩
   replace H : (some (y294, false)) = some (r1, r2) := by first | (rw [hy294]; with_reducible exact H) | (have H2_ := (Option.bind_some _ _).symm.trans H; rw [hy294]; with_reducible exact H2_) | (have H2_ := (Option.bind_some _ _).symm.trans H; with_reducible exact H2_) | with_reducible exact H | (rw [hy294]; exact H) | exact H
   have Ny294 := Aside0.mk hy294
   clear hy294
   simp only [Option.some.injEq, Prod.mk.injEq] at H
   obtain ⟨rfl, rfl⟩ := H
   go_enter Try.func33, Try.ntmps33
   go_wp2_with (first | ((with_reducible refine gC 68 ?_); refine lA (some 12) Try.func68 (spec_l19Good.calls k _ _ l0 _ _ l1 true _ ?side1 ?side2 ?side3 ?side4 A4.out) ?_; (case side1 => repeat (first | exact HR0.out | (with_reducible refine Kd.C_alloc ?_ _) | (with_reducible refine Kd.C_drewN ?_ _) | (with_reducible refine Kd.C_drew ?_))); (case side2 => exact HC0.out); (case side3 => repeat (first | exact HR1.out | (with_reducible refine Kd.C_alloc ?_ _) | (with_reducible refine Kd.C_drewN ?_ _) | (with_reducible refine Kd.C_drew ?_))); (case side4 => exact HC1.out); intro w11 hb; replace HB := uB HB hb; (try clear hb); (try clear hk)) | (go_at_call 70; (with_reducible refine (spec_l1In.calls a2 0 (l1.length : Int) false _ A6.out).mono ?_); rintro e w' ⟨rfl, ⟨nd, rfl⟩⟩) | ((with_reducible refine gate_dst (N := 21) rfl ?_); (try (refine gate_guard (by rfl) ?_; dsimp only)); refine Kd.R_lit k26 _ 26 ?hg (N := 21) ?hd (xs := ([] : List (S26))) (inner := []) (ok := fun _ => True) (okp := fun _ => True) ?hr ?hp (fun _ hk => hk) trivial (Below.refl _ _) (Nat.le_refl _) (by simp) ?_; (case hd => rfl); (case hg => rfl); (case hr => first | (go_simp; done) | (go_simp; rfl)); (case hp => exact (Reps.none _ _)); intro v295 w12 ho13 hb hg_ hnew_; clear hg_ hnew_; (first | rw [← Ny294.out] at ho13 | (simp only [Int.reduceToNat] at ho13; rw [← Ny294.out] at ho13)); have HO296 := Aside0.mk (Kd.R_lower ho13 (below_size (bW HB))); replace HB := uB HB hb; clear hb ho13))
   go_ret2
   exact ⟨_, eB, upR HO296.out, (bW HB)⟩
 ·replace H := iF (by decide) H
  obtain ⟨y297, hy297⟩ : ∃ y_ : List (S26), y_ = (([] : List (S26))) := ⟨_, rfl⟩
  replace H : (some (y297, false)) = some (r1, r2) := by first | (rw [hy297]; with_reducible exact H) | (have H2_ := (Option.bind_some _ _).symm.trans H; rw [hy297]; with_reducible exact H2_) | (have H2_ := (Option.bind_some _ _).symm.trans H; with_reducible exact H2_) | with_reducible exact H | (rw [hy297]; exact H) | exact H
  have Ny297 := Aside0.mk hy297
  clear hy297
  simp only [Option.some.injEq, Prod.mk.injEq] at H
  obtain ⟨rfl, rfl⟩ := H
  go_enter Try.func33, Try.ntmps33
  go_wp2_with (first | ((with_reducible refine gC 68 ?_); refine lA (some 12) Try.func68 (spec_l19Good.calls k _ _ l0 _ _ l1 false _ ?side1 ?side2 ?side3 ?side4 A4.out) ?_; (case side1 => repeat (first | exact HR0.out | (with_reducible refine Kd.C_alloc ?_ _) | (with_reducible refine Kd.C_drewN ?_ _) | (with_reducible refine Kd.C_drew ?_))); (case side2 => exact HC0.out); (case side3 => repeat (first | exact HR1.out | (with_reducible refine Kd.C_alloc ?_ _) | (with_reducible refine Kd.C_drewN ?_ _) | (with_reducible refine Kd.C_drew ?_))); (case side4 => exact HC1.out); intro w14 hb; replace HB := uB HB hb; (try clear hb); (try clear hk)) | ((with_reducible refine gate_dst (N := 21) rfl ?_); (try (refine gate_guard (by rfl) ?_; dsimp only)); refine Kd.R_lit k26 _ 26 ?hg (N := 21) ?hd (xs := ([] : List (S26))) (inner := []) (ok := fun _ => True) (okp := fun _ => True) ?hr ?hp (fun _ hk => hk) trivial (Below.refl _ _) (Nat.le_refl _) (by simp) ?_; (case hd => rfl); (case hg => rfl); (case hr => first | (go_simp; done) | (go_simp; rfl)); (case hp => exact (Reps.none _ _)); intro v298 w15 ho16 hb hg_ hnew_; clear hg_ hnew_; (first | rw [← Ny297.out] at ho16 | (simp only [Int.reduceToNat] at ho16; rw [← Ny297.out] at ho16)); have HO299 := Aside0.mk (Kd.R_lower ho16 (below_size (bW HB))); replace HB := uB HB hb; clear hb ho16))
  go_ret2
  exact ⟨_, eB, upR HO299.out, (bW HB)⟩

/-! ### impl_VersionAt: function 34 -/
def impl_VersionAt.f (k : Nat) (l0 : List (S26)) (l1 : List (S28)) (a2 : Int) : Option ((List (S26)) × Bool) := (impl_versions.f k l0 l1).bind fun bt300 => (if bt300.2 = true then ((impl_within.f a2 0 (l1.length : Int)).bind fun t304 => (if t304 = true then (if 0 ≤ a2 then (if a2 < (bt300.1.length : Int) then (some (rd_L2 bt300.1 a2, true)) else (none)) else (none)) else (some (([] : List (S26)), false)))) else (some (([] : List (S26)), false)))
theorem impl_VersionAt.mono : ∀ a0 a1 a2 k, LeO (impl_VersionAt.f k a0 a1 a2) (impl_VersionAt.f (k + 1) a0 a1 a2) := by
 intro a0 a1 a2 k
 unfold impl_VersionAt.f
 repeat' with_reducible first | apply impl_versions.mono | exact LeO.refl _ | exact LeO.none _ | refine LeO.ite ?_ ?_ | refine LeO.bind ?_ (fun _ => ?_)
set_option maxHeartbeats 8000000 in
set_option maxRecDepth 100000 in
theorem impl_VersionAt.calls (k : Nat) (A0 : Option Addr) (c0 : Nat) (l0 : List (S26)) (A1 : Option Addr) (c1 : Nat) (l1 : List (S28)) (a2 : Int) (r1 : List (S26)) (r2 : Bool) (w : World) (hr0 : Kd.C k26 w A0 l0.length l0) (hc0 : l0.length ≤ c0) (hr1 : Kd.C k28 w A1 l1.length l1) (hc1 : l1.length ≤ c1) (h : impl_VersionAt.f k l0 l1 a2 = some (r1, r2)) :
  Calls Try.prog 34 #[.slice A0 l0.length c0, .slice A1 l1.length c1, .int .i64 a2] w fun e w' => ∃ v0_ : Value, e = .returned (.tuple #[v0_, .bool r2]) ∧ Kd.R k26 26 w' w.heap.size (fun _ => True) v0_ r1 ∧ Below w.heap.size w w' := by
 have HR0 := Aside0.mk hr0
 have HC0 := Aside0.mk hc0
 clear hr0 hc0
 have HR1 := Aside0.mk hr1
 have HC1 := Aside0.mk hc1
 clear hr1 hc1
 have HB := Aside0.mk (Below.refl w.heap.size w)
 have H := h
 clear h
 unfold impl_VersionAt.f at H
 replace H := Option.bind_eq_some_iff.mp H
 obtain ⟨⟨t300, t301⟩, A40, H⟩ := H
 replace H : (if t301 = true then ((impl_within.f a2 0 (l1.length : Int)).bind fun t304 => (if t304 = true then (if 0 ≤ a2 then (if a2 < (t300.length : Int) then (some (rd_L2 t300 a2, true)) else (none)) else (none)) else (some (([] : List (S26)), false)))) else (some (([] : List (S26)), false))) = some (r1, r2) := H
 have A4 := Aside0.mk A40
 clear A40
 rcases Bool.eq_false_or_eq_true t301 with rfl | rfl
 ·replace H := iT rfl H
  replace H := bA H
  obtain ⟨t304, A6, H⟩ := H
  rcases Bool.eq_false_or_eq_true t304 with rfl | rfl
  ·replace H := iT rfl H
   by_cases c8 : 0 ≤ a2
   ·rw [if_pos c8] at H
    have c8b0 : decide (0 ≤ a2) = true := decide_eq_true c8
    clear c8
    by_cases c9 : a2 < (t300.length : Int)
    ·rw [if_pos c9] at H
     have c9b0 : decide (a2 < (t300.length : Int)) = true := decide_eq_true c9
     clear c9
     simp only [Option.some.injEq, Prod.mk.injEq] at H
     obtain ⟨rfl, rfl⟩ := H
     go_enter Try.func34, Try.ntmps34
     go_wp2_with (first | ((with_reducible refine gate_callee (f := 69) rfl ?_); refine goesL_ (some 13) rfl rfl Try.func69 (by kernel_rfl) rfl #[.slice A0 l0.length c0, .slice A1 l1.length c1] rfl argsB ?_; (with_reducible refine (impl_versions.calls k _ _ l0 _ _ l1 t300 true _ ?side1 ?side2 ?side3 ?side4 A4.out).mono ?_); (case side1 => repeat (first | exact HR0.out | (with_reducible refine Kd.C_alloc ?_ _) | (with_reducible refine Kd.C_drewN ?_ _) | (with_reducible refine Kd.C_drew ?_))); (case side2 => exact HC0.out); (case side3 => repeat (first | exact HR1.out | (with_reducible refine Kd.C_alloc ?_ _) | (with_reducible refine Kd.C_drewN ?_ _) | (with_reducible refine Kd.C_drew ?_))); (case side4 => exact HC1.out); rintro e w10 ⟨v302, rfl, ho0, hb⟩; refine ⟨_, rfl, ?_⟩; have HO303 := Aside0.mk (Kd.S_lower ho0 (below_size (bW HB))); replace HB := uB HB hb; (try clear hb); (try clear hk); (try clear ho0)) | (go_at_call 72; (with_reducible refine (impl_within.calls a2 0 (l1.length : Int) true _ A6.out).mono ?_); rintro e w' ⟨rfl, ⟨nd, rfl⟩⟩; obtain ⟨Ao11, co11, eo11⟩ := Kd.S_slice HO303.out; subst eo11; have p305 : 0 ≤ (a2 : Int) := of_decide_eq_true asmB; have q305 : a2 < (t300.length : Int) := of_decide_eq_true asmB; obtain ⟨ad305, A305_0, c305_0, e305, hx305_0, hl305_0, hi305_0⟩ := at_L2 (Kd.S_reads' HO303.out).2.2 a2 p305 q305; cases e305; obtain ⟨ce305, hce305, hMe305, hcc305⟩ := Kd.S_get HO303.out [] a2 p305 (by first | exact q305 | exact of_decide_eq_true asmB | (have e_ := (Kd.S_reads' HO303.out).1; omega)); obtain ⟨ve305_0, rfl, ge305_0⟩ := hMe305; have hv305_0 := hcc305 0 _ rfl; rw [Nat.add_zero, show ((Kd.slice 26 k26)).sz = 1 from rfl, Nat.mul_one] at hv305_0; replace hv305_0 := Option.some.inj (hv305_0.symm.trans hx305_0); rw [hv305_0] at ge305_0; have HL305_0 := Aside0.mk (show Kd.R k26 26 _ _ _ _ (rd_L2 t300 a2) from ge305_0); clear hv305_0 ge305_0; clear hcc305 hce305; have HR305_0 := Aside0.mk hi305_0; have HC305_0 := Aside0.mk hl305_0; clear hi305_0 hl305_0; replace p305 := eq_true p305; replace q305 := eq_true q305))
     go_ret2
     exact ⟨_, eB, by (with_reducible repeat (first | apply Kd.R_alloc | apply Kd.R_drewN | apply Kd.R_drew)); exact Kd.R_mono HL305_0.out (fun _ hk => trivial), (bW HB)⟩
    ·rw [if_neg c9] at H
     exact absurd H (by simp)
   ·rw [if_neg c8] at H
    exact absurd H (by simp)
  ·replace H := iF (by decide) H
   simp only [Option.some.injEq, Prod.mk.injEq] at H
   obtain ⟨rfl, rfl⟩ := H
   go_enter Try.func34, Try.ntmps34
   go_wp2_with (first | ((with_reducible refine gate_callee (f := 69) rfl ?_); refine goesL_ (some 13) rfl rfl Try.func69 (by kernel_rfl) rfl #[.slice A0 l0.length c0, .slice A1 l1.length c1] rfl argsB ?_; (with_reducible refine (impl_versions.calls k _ _ l0 _ _ l1 t300 true _ ?side1 ?side2 ?side3 ?side4 A4.out).mono ?_); (case side1 => repeat (first | exact HR0.out | (with_reducible refine Kd.C_alloc ?_ _) | (with_reducible refine Kd.C_drewN ?_ _) | (with_reducible refine Kd.C_drew ?_))); (case side2 => exact HC0.out); (case side3 => repeat (first | exact HR1.out | (with_reducible refine Kd.C_alloc ?_ _) | (with_reducible refine Kd.C_drewN ?_ _) | (with_reducible refine Kd.C_drew ?_))); (case side4 => exact HC1.out); rintro e w12 ⟨v302, rfl, ho0, hb⟩; refine ⟨_, rfl, ?_⟩; have HO303 := Aside0.mk (Kd.S_lower ho0 (below_size (bW HB))); replace HB := uB HB hb; (try clear hb); (try clear hk); (try clear ho0)) | (go_at_call 72; (with_reducible refine (impl_within.calls a2 0 (l1.length : Int) false _ A6.out).mono ?_); rintro e w' ⟨rfl, ⟨nd, rfl⟩⟩))
   go_ret2
   exact ⟨_, eB, by first | exact Kd.R_nil _ _ _ _ _ | exact Kd.N_nil _ _ _ _ _ | exact Kd.V_nil _ _ _ _ _ | exact Kd.Q_nil _ _ _ _ _ | exact Kd.S_nil _ _ _ _ _, (bW HB)⟩
 ·replace H := iF (by decide) H
  simp only [Option.some.injEq, Prod.mk.injEq] at H
  obtain ⟨rfl, rfl⟩ := H
  go_enter Try.func34, Try.ntmps34
  go_wp2_with (first | ((with_reducible refine gate_callee (f := 69) rfl ?_); refine goesL_ (some 13) rfl rfl Try.func69 (by kernel_rfl) rfl #[.slice A0 l0.length c0, .slice A1 l1.length c1] rfl argsB ?_; (with_reducible refine (impl_versions.calls k _ _ l0 _ _ l1 t300 false _ ?side1 ?side2 ?side3 ?side4 A4.out).mono ?_); (case side1 => repeat (first | exact HR0.out | (with_reducible refine Kd.C_alloc ?_ _) | (with_reducible refine Kd.C_drewN ?_ _) | (with_reducible refine Kd.C_drew ?_))); (case side2 => exact HC0.out); (case side3 => repeat (first | exact HR1.out | (with_reducible refine Kd.C_alloc ?_ _) | (with_reducible refine Kd.C_drewN ?_ _) | (with_reducible refine Kd.C_drew ?_))); (case side4 => exact HC1.out); rintro e w13 ⟨v302, rfl, ho0, hb⟩; refine ⟨_, rfl, ?_⟩; have HO303 := Aside0.mk (Kd.S_lower ho0 (below_size (bW HB))); replace HB := uB HB hb; (try clear hb); (try clear hk); (try clear ho0)))
  go_ret2
  exact ⟨_, eB, by first | exact Kd.R_nil _ _ _ _ _ | exact Kd.N_nil _ _ _ _ _ | exact Kd.V_nil _ _ _ _ _ | exact Kd.Q_nil _ _ _ _ _ | exact Kd.S_nil _ _ _ _ _, (bW HB)⟩

end Go.Proofs.Ytinelmmnajelaaa.QFnVersions
