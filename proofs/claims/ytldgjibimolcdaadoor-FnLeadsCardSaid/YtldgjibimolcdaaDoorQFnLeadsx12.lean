/- Contracts of Go functions that FnLeads reaches: the call computes what the plain function says. No condition. -/
import Derived.Test.YtldgjibimolcdaaDoorQFnLeadsx0
import Derived.Test.YtldgjibimolcdaaDoorQFnLeadsx3
import Derived.Test.YtldgjibimolcdaaDoorQFnLeadsx11
namespace Go.Proofs.YtldgjibimolcdaaDoor.QFnLeads
open Go.RowKit Go.Proofs.YtldgjibimolcdaaDoorW.PrintWords Go.Proofs.YtldgjibimolcdaaDoorW.PrintLast Go.Proofs.YtldgjibimolcdaaDoorW.PrintMore
attribute [local go_sem] max2_int min2_int max_two min_two max_three min_three max_four min_four   -- for this text's walks alone
set_option linter.unusedVariables false
set_option linter.unusedSimpArgs false

/-! ### impl_LeadsAt: function 17 -/
mutual
def impl_LeadsAt.j0 : Nat → List (S26) → Int → Bool → Option (List Int × Bool)
 | 0, _, _, _ => none
 | k + 1, x0, x1, x16 => if x16 = true then (some (([] : List Int), false)) else (impl_LeadsAt.l0 k x1 ([] : List Int) x0 (x0.length : Int) 0)
def impl_LeadsAt.l0 : Nat → Int → List Int → List (S26) → Int → Int → Option (List Int × Bool)
 | 0, _, _, _, _, _ => none
 | k + 1, x1, x6, x17, x18, x19 => if x19 < x18 then (if 0 ≤ x19 then (if x19 < (x17.length : Int) then (if ((rd_T26 x17 x19).f1) = x1 then (if x6.length < 17592186044416 then (impl_LeadsAt.l0 k x1 (x6 ++ [(rd_T26 x17 x19).f0]) x17 x18 (wrap64 (x19 + 1))) else (none)) else (impl_LeadsAt.l0 k x1 x6 x17 x18 (wrap64 (x19 + 1)))) else (none)) else (none)) else (some (x6, true))
end
def impl_LeadsAt.f (k : Nat) (l0 : List (S26)) (a1 : Int) : Option (List Int × Bool) := (impl_AreLeads.f k l0).bind fun t377 => (if t377 = true then ((impl_isStation.f a1).bind fun t378 => (impl_LeadsAt.j0 k l0 a1 (!t378))) else (impl_LeadsAt.j0 k l0 a1 true))
theorem impl_LeadsAt.mono_l : ∀ k, (∀ y0 y1 y2, LeO (impl_LeadsAt.j0 k y0 y1 y2) (impl_LeadsAt.j0 (k + 1) y0 y1 y2)) ∧ (∀ y0 y1 y2 y3 y4, LeO (impl_LeadsAt.l0 k y0 y1 y2 y3 y4) (impl_LeadsAt.l0 (k + 1) y0 y1 y2 y3 y4))
 | 0 => ⟨fun _ _ _ r h => by simp [impl_LeadsAt.j0] at h, fun _ _ _ _ _ r h => by simp [impl_LeadsAt.l0] at h⟩
 | k + 1 => by
  obtain ⟨ih0, ih1⟩ := impl_LeadsAt.mono_l k
  refine ⟨?_, ?_⟩
  ·intro y0 y1 y2
   unfold impl_LeadsAt.j0
   repeat' with_reducible first | apply ih0 | apply ih1 | apply impl_AreLeads.mono | exact LeO.refl _ | exact LeO.none _ | refine LeO.ite ?_ ?_ | refine LeO.bind ?_ (fun _ => ?_)
  ·intro y0 y1 y2 y3 y4
   unfold impl_LeadsAt.l0
   repeat' with_reducible first | apply ih0 | apply ih1 | apply impl_AreLeads.mono | exact LeO.refl _ | exact LeO.none _ | refine LeO.ite ?_ ?_ | refine LeO.bind ?_ (fun _ => ?_)
theorem impl_LeadsAt.mono : ∀ a0 a1 k, LeO (impl_LeadsAt.f k a0 a1) (impl_LeadsAt.f (k + 1) a0 a1) := by
 intro a0 a1 k
 obtain ⟨ih0, ih1⟩ := impl_LeadsAt.mono_l k
 unfold impl_LeadsAt.f
 repeat' with_reducible first | apply ih0 | apply ih1 | apply impl_AreLeads.mono | exact LeO.refl _ | exact LeO.none _ | refine LeO.ite ?_ ?_ | refine LeO.bind ?_ (fun _ => ?_)
set_option maxHeartbeats 8000000 in
set_option maxRecDepth 100000 in
theorem impl_LeadsAt.calls (k : Nat) (A0 : Option Addr) (c0 : Nat) (l0 : List (S26)) (a1 : Int) (r1 : List Int) (r2 : Bool) (w : World) (hr0 : Kd.C k26 w A0 l0.length l0) (hc0 : l0.length ≤ c0) (h : impl_LeadsAt.f k l0 a1 = some (r1, r2)) :
  Calls Tryd.prog 17 #[.slice A0 l0.length c0, .int .i64 a1] w fun e w' => ∃ v0_ : Value, e = .returned (.tuple #[v0_, .bool r2]) ∧ Kd.R (Kd.int .i64) 3 w' w.heap.size (fun _ => True) v0_ r1 ∧ Below w.heap.size w w' := by
 have hu26 := Tryd.underlying26
 have HR0 := Aside0.mk hr0
 have HC0 := Aside0.mk hc0
 clear hr0 hc0
 have HB := Aside0.mk (Below.refl w.heap.size w)
 have H := h
 clear h
 unfold impl_LeadsAt.f at H
 have HC3 := Aside0.mk H
 clear H
 go_enter Tryd.func17, Tryd.ntmps17
 go_upto_region 1 with (fail)
 go_cut [16] (fun v16 wc => ∃ (kq : Nat) (x16_2 : Bool), v16 = .bool x16_2 ∧ Aside0 (impl_LeadsAt.j0 kq l0 a1 x16_2 = some (r1, r2)) ∧ Aside0 (kq ≤ k) ∧ Aside0 (Below w.heap.size w wc))
 case first =>
  have H := HC3.out
  clear HC3
  replace H := bA H
  obtain ⟨t377, A4, H⟩ := H
  rcases Bool.eq_false_or_eq_true t377 with rfl | rfl
  ·replace H := iT rfl H
   replace H := bA H
   obtain ⟨t378, A6, H⟩ := H
   have H' := Aside0.mk H
   clear H
   go_wp2_with (first | ((with_reducible refine gC 22 ?_); refine lA (some 10) Tryd.func22 (impl_AreLeads.calls k _ _ l0 true _ ?side1 ?side2 A4.out) ?_; (case side1 => repeat (first | exact (Kd.C_below HR0.out HB.out) | (with_reducible refine Kd.C_alloc ?_ _) | (with_reducible refine Kd.C_drewN ?_ _) | (with_reducible refine Kd.C_drew ?_))); (case side2 => exact HC0.out); intro w7 hb; replace HB := uB HB hb; (try clear hb); (try clear hk)) | (go_at_call 35; (with_reducible refine (impl_isStation.calls a1 t378 _ A6.out).mono ?_); rintro e w' ⟨rfl, ⟨nd, rfl⟩⟩))
   go_meet
   case rel => exact ⟨_, (!t378), rB, H', leB, (aB HB)⟩
  ·replace H := iF (by decide) H
   have H' := Aside0.mk H
   clear H
   go_wp2_with (first | ((with_reducible refine gC 22 ?_); refine lA (some 10) Tryd.func22 (impl_AreLeads.calls k _ _ l0 false _ ?side1 ?side2 A4.out) ?_; (case side1 => repeat (first | exact (Kd.C_below HR0.out HB.out) | (with_reducible refine Kd.C_alloc ?_ _) | (with_reducible refine Kd.C_drewN ?_ _) | (with_reducible refine Kd.C_drew ?_))); (case side2 => exact HC0.out); intro w8 hb; replace HB := uB HB hb; (try clear hb); (try clear hk)))
   go_meet
   case rel => exact ⟨_, (true), rB, H', leB, (aB HB)⟩
 case rest =>
  clear HC3
  obtain ⟨kq, x16_2, rfl, HA, HJ2, HB⟩ := hcut
  cases kq with
  | zero => exact absurd HA.out (by simp [impl_LeadsAt.j0])
  | succ kj2 =>
   have H := HA.out
   clear HA
   simp only [impl_LeadsAt.j0] at H
   rcases Bool.eq_false_or_eq_true x16_2 with rfl | rfl
   ·replace H := iT rfl H
    simp only [Option.some.injEq, Prod.mk.injEq] at H
    obtain ⟨rfl, rfl⟩ := H
    go_wp2
    go_ret2
    exact ⟨_, eB, by first | exact Kd.R_nil _ _ _ _ _ | exact Kd.N_nil _ _ _ _ _ | exact Kd.V_nil _ _ _ _ _ | exact Kd.Q_nil _ _ _ _ _ | exact Kd.S_nil _ _ _ _ _, (bW HB)⟩
   ·replace H := iF (by decide) H
    have H' := Aside0.mk H
    clear H
    go_wp2
    go_loopg [6, 19] kj2 (fun kq v6 v19 w' => ∃ (x6_2 : List Int) (x19_2 : Int), v19 = .int .i64 x19_2 ∧ Aside0 (impl_LeadsAt.l0 kq a1 x6_2 l0 (l0.length : Int) x19_2 = some (r1, r2)) ∧ Aside0 (kq ≤ kj2) ∧ Aside0 (Kd.R (Kd.int .i64) 3 w' w.heap.size (fun _ => True) v6 x6_2) ∧ Aside0 (Below w.heap.size w w'))
    case atStart => exact ⟨(([] : List Int)), (0), rB, H', ⟨Nat.le_refl _⟩, ⟨by first | exact Kd.R_nil _ _ _ _ _ | exact Kd.N_nil _ _ _ _ _ | exact Kd.V_nil _ _ _ _ _ | exact Kd.Q_nil _ _ _ _ _ | exact Kd.S_nil _ _ _ _ _⟩, (aB HB)⟩
    case round =>
     clear H'
     obtain ⟨x6_2, x19_2, rfl, HA, HK2, HO_6, HB⟩ := hrel
     cases gk with
     | zero => exact absurd HA.out (by simp [impl_LeadsAt.l0])
     | succ k2 =>
      have H := HA.out
      clear HA
      simp only [impl_LeadsAt.l0] at H
      replace H := ifD H
      rcases H with ⟨H, -, c10b0⟩ | ⟨H, -, c10b0⟩
      ·by_cases c11 : 0 ≤ x19_2
       ·rw [if_pos c11] at H
        have c11b0 : decide (0 ≤ x19_2) = true := decide_eq_true c11
        clear c11
        by_cases c12 : x19_2 < (l0.length : Int)
        ·rw [if_pos c12] at H
         have c12b0 : decide (x19_2 < (l0.length : Int)) = true := decide_eq_true c12
         clear c12
         replace H := ifI H
         rcases H with ⟨H, -, c13b0, c13b1⟩ | ⟨H, c13, c13b0, c13b1⟩
         ·by_cases c14 : x6_2.length < 17592186044416
          ·rw [if_pos c14] at H
           have LMc14 := Aside0.mk c14
           clear c14
           obtain ⟨y381, hy381⟩ : ∃ y_ : List Int, y_ = (x6_2 ++ [(rd_T26 l0 x19_2).f0]) := ⟨_, rfl⟩
           replace H : (impl_LeadsAt.l0 k2 a1 y381 l0 (l0.length : Int) (wrap64 (x19_2 + 1))) = some (r1, r2) := by first | (rw [hy381]; with_reducible exact H) | (have H2_ := (Option.bind_some _ _).symm.trans H; rw [hy381]; with_reducible exact H2_) | (have H2_ := (Option.bind_some _ _).symm.trans H; with_reducible exact H2_) | with_reducible exact H | (rw [hy381]; exact H) | exact H
           have Ny381 := Aside0.mk hy381
           clear hy381
           have H' := Aside0.mk H
           clear H
           have p379 : 0 ≤ (x19_2 : Int) := of_decide_eq_true asmB
           have q379 : x19_2 < (l0.length : Int) := of_decide_eq_true asmB
           obtain ⟨ad379, e379, hx379_0, hx379_1, hx379_2, hx379_3, hx379_4⟩ := at_T26 HR0.out x19_2 p379 q379
           cases e379
           replace hx379_0 := bx HB.out hx379_0
           replace hx379_1 := bx HB.out hx379_1
           replace hx379_2 := bx HB.out hx379_2
           replace hx379_3 := bx HB.out hx379_3
           replace hx379_4 := bx HB.out hx379_4
           replace p379 := eq_true p379
           replace q379 := eq_true q379
           go_wp2_with (first | ((with_reducible refine gD 8 ?_); refine bxE 8 26 #[.int .i64 0, .int .i64 0, .int .i64 0, .int .i64 0, .int .i64 0] fun gb380 w15 hg hbox hb => ?_; have BK380 := Aside0.mk hbox; have GE380 := gB HB hg; replace HO_6 := uR HO_6 hb; replace HB := uB HB hb; clear hb hbox hg; have ⟨hcz16_0, hcz16_1, hcz16_2, hcz16_3, hcz16_4, hfz16_0⟩ := cz5 BK380) | ((with_reducible refine gate_builtin (b := .append) (xs := #[.tmp 27, .tmp 30]) rfl ?_); at_builtin; refine Kd.R_append (Kd.int .i64) (w0 := w) w.heap.size rfl (.tmp 27) (.tmp 30) 41 3 (.int .i64 0) 8 rfl Tryd.underlying41 info3 rfl (by decide) (by omega) u6 x6_2 ((rd_T26 l0 x19_2).f0) [.int .i64 ((rd_T26 l0 x19_2).f0)] (fun _ => True) (fun _ => False) rfl (by first | (go_simp; done) | (go_simp; rfl)) ?aP (fun _ hk => hk.elim) ?aF ?aO ?aB ?aS ?aL ?_; (case aP => exact rfl); (case aB => exact (bW HB)); (case aF => exact (fun _ _ => trivial)); (case aO => exact (by (with_reducible repeat (first | apply Kd.R_alloc | apply Kd.R_drewN | apply Kd.R_drew)); exact Kd.R_mono (Kd.R_far (p := ⟨gb380, 4, none⟩) (Kd.R_far (p := ⟨gb380, 3, none⟩) (Kd.R_far (p := ⟨gb380, 2, none⟩) (Kd.R_far (p := ⟨gb380, 1, none⟩) (Kd.R_far (p := ⟨gb380, 0, none⟩) (Kd.R_types HO_6.out BK380.out (by decide)) (fun _ hk => hk.2) (.int .i64 ((rd_T26 l0 x19_2).f0))) (fun _ hk => hk.2) (.int .i64 ((rd_T26 l0 x19_2).f1))) (fun _ hk => hk.2) (.int .i64 ((rd_T26 l0 x19_2).f2))) (fun _ hk => hk.2) (.int .i64 ((rd_T26 l0 x19_2).f3))) (fun _ hk => hk.2) (.int .i64 ((rd_T26 l0 x19_2).f4))) (fun _ hk => trivial))); (case aS => exact (below_size (bW HB))); (case aL => have := LMc14.out; omega); intro v382 w17 ho hb hg hat; rw [← Ny381.out] at ho; have HO383 := Aside0.mk (ho); replace BK380 := Aside0.mk (blk_grown (g := gb380) (o := .cells #[.int .i64 ((rd_T26 l0 x19_2).f0), .int .i64 ((rd_T26 l0 x19_2).f1), .int .i64 ((rd_T26 l0 x19_2).f2), .int .i64 ((rd_T26 l0 x19_2).f3), .int .i64 ((rd_T26 l0 x19_2).f4)] 26 (0, 0)) (by exact pW BK380) hg (Kd.R_ne HO_6.out BK380.out (by decide))); replace HB := Aside0.mk (hb); clear HO_6; clear ho hb hg hat))
           go_roundg k2
           case measure => have := HJ2.out; have := HK2.out; omega
           case rel => exact ⟨(y381), (wrap64 (x19_2 + 1)), rB, H', ⟨by have := HJ2.out; have := HK2.out; omega⟩, ⟨upR HO383.out⟩, (aB HB)⟩
          ·rw [if_neg c14] at H
           exact absurd H (by simp)
         ·have H' := Aside0.mk H
          clear H
          have p379 : 0 ≤ (x19_2 : Int) := of_decide_eq_true asmB
          have q379 : x19_2 < (l0.length : Int) := of_decide_eq_true asmB
          obtain ⟨ad379, e379, hx379_0, hx379_1, hx379_2, hx379_3, hx379_4⟩ := at_T26 HR0.out x19_2 p379 q379
          cases e379
          replace hx379_0 := bx HB.out hx379_0
          replace hx379_1 := bx HB.out hx379_1
          replace hx379_2 := bx HB.out hx379_2
          replace hx379_3 := bx HB.out hx379_3
          replace hx379_4 := bx HB.out hx379_4
          replace p379 := eq_true p379
          replace q379 := eq_true q379
          go_wp2_with (first | ((with_reducible refine gD 8 ?_); refine bxE 8 26 #[.int .i64 0, .int .i64 0, .int .i64 0, .int .i64 0, .int .i64 0] fun gb380 w18 hg hbox hb => ?_; have BK380 := Aside0.mk hbox; have GE380 := gB HB hg; replace HO_6 := uR HO_6 hb; replace HB := uB HB hb; clear hb hbox hg; have ⟨hcz19_0, hcz19_1, hcz19_2, hcz19_3, hcz19_4, hfz19_0⟩ := cz5 BK380))
          go_roundg k2
          case measure => have := HJ2.out; have := HK2.out; omega
          case rel => exact ⟨(x6_2), (wrap64 (x19_2 + 1)), rB, H', ⟨by have := HJ2.out; have := HK2.out; omega⟩, ⟨by (with_reducible repeat (first | apply Kd.R_alloc | apply Kd.R_drewN | apply Kd.R_drew)); exact Kd.R_mono (Kd.R_far (p := ⟨gb380, 4, none⟩) (Kd.R_far (p := ⟨gb380, 3, none⟩) (Kd.R_far (p := ⟨gb380, 2, none⟩) (Kd.R_far (p := ⟨gb380, 1, none⟩) (Kd.R_far (p := ⟨gb380, 0, none⟩) (Kd.R_types HO_6.out BK380.out (by decide)) (fun _ hk => hk.2) (.int .i64 ((rd_T26 l0 x19_2).f0))) (fun _ hk => hk.2) (.int .i64 ((rd_T26 l0 x19_2).f1))) (fun _ hk => hk.2) (.int .i64 ((rd_T26 l0 x19_2).f2))) (fun _ hk => hk.2) (.int .i64 ((rd_T26 l0 x19_2).f3))) (fun _ hk => hk.2) (.int .i64 ((rd_T26 l0 x19_2).f4))) (fun _ hk => trivial)⟩, (aB HB)⟩
        ·rw [if_neg c12] at H
         exact absurd H (by simp)
       ·rw [if_neg c11] at H
        exact absurd H (by simp)
      ·simp only [Option.some.injEq, Prod.mk.injEq] at H
       obtain ⟨rfl, rfl⟩ := H
       go_wp2
       go_ret2
       exact ⟨_, eB, upR HO_6.out, (bW HB)⟩

end Go.Proofs.YtldgjibimolcdaaDoor.QFnLeads
