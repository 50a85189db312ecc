/- Contracts of Go functions that FnTripLists reaches: the call computes what the plain function says. No condition. -/
import Derived.Test.YtmeaacbnjpgepaaGreatDoorQFnTripListsx0
import Derived.Test.YtmeaacbnjpgepaaGreatDoorQFnTripListsx2
import Derived.Test.YtmeaacbnjpgepaaGreatDoorQFnTripListsx3
import Derived.Test.YtmeaacbnjpgepaaGreatDoorQFnTripListsx5
import Derived.Test.YtmeaacbnjpgepaaGreatDoorQFnTripListsx12
namespace Go.Proofs.YtmeaacbnjpgepaaGreatDoor.QFnTripLists
open Go.RowKit Go.Proofs.YtmeaacbnjpgepaaGreatDoorW.PrintWords Go.Proofs.YtmeaacbnjpgepaaGreatDoorW.PrintLast Go.Proofs.YtmeaacbnjpgepaaGreatDoorW.PrintMore
attribute [local go_sem] max2_int min2_int max_two min_two max_three min_three max_four min_four   -- for this text's walks alone
set_option linter.unusedVariables false
set_option linter.unusedSimpArgs false

/-! ### impl_OverdueTrips: function 12 -/
mutual
def impl_OverdueTrips.j0 : Nat → List (S25) → Int → Bool → Option (List Int × Bool)
 | 0, _, _, _ => none
 | k + 1, x0, x1, x16 => if x16 = true then (some (([] : List Int), false)) else (impl_OverdueTrips.l0 k x1 ([] : List Int) x0 (x0.length : Int) 0)
def impl_OverdueTrips.l0 : Nat → Int → List Int → List (S25) → Int → Int → Option (List Int × Bool)
 | 0, _, _, _, _, _ => none
 | k + 1, x1, x6, x17, x18, x19 => if x19 < x18 then (if 0 ≤ x19 then (if x19 < (x17.length : Int) then (if ((rd_T25 x17 x19).f0) = 2 then (if x6.length < 17592186044416 then (impl_OverdueTrips.l0 k x1 (x6 ++ [x19]) x17 x18 (wrap64 (x19 + 1))) else (none)) else (if ((rd_T25 x17 x19).f0) = 3 then (if x6.length < 17592186044416 then (impl_OverdueTrips.l0 k x1 (x6 ++ [x19]) x17 x18 (wrap64 (x19 + 1))) else (none)) else (if ((rd_T25 x17 x19).f0) = 1 then (if x1 > ((rd_T25 x17 x19).f3) then (if x6.length < 17592186044416 then (impl_OverdueTrips.l0 k x1 (x6 ++ [x19]) x17 x18 (wrap64 (x19 + 1))) else (none)) else (impl_OverdueTrips.l0 k x1 x6 x17 x18 (wrap64 (x19 + 1)))) else (impl_OverdueTrips.l0 k x1 x6 x17 x18 (wrap64 (x19 + 1)))))) else (none)) else (none)) else (some (x6, true))
end
def impl_OverdueTrips.f (k : Nat) (l0 : List (S25)) (a1 : Int) : Option (List Int × Bool) := (impl_areTrips.f k l0).bind fun t399 => (if t399 = true then ((impl_isTime.f a1).bind fun t400 => (impl_OverdueTrips.j0 k l0 a1 (!t400))) else (impl_OverdueTrips.j0 k l0 a1 true))
theorem impl_OverdueTrips.mono_l : ∀ k, (∀ y0 y1 y2, LeO (impl_OverdueTrips.j0 k y0 y1 y2) (impl_OverdueTrips.j0 (k + 1) y0 y1 y2)) ∧ (∀ y0 y1 y2 y3 y4, LeO (impl_OverdueTrips.l0 k y0 y1 y2 y3 y4) (impl_OverdueTrips.l0 (k + 1) y0 y1 y2 y3 y4))
 | 0 => ⟨fun _ _ _ r h => by simp [impl_OverdueTrips.j0] at h, fun _ _ _ _ _ r h => by simp [impl_OverdueTrips.l0] at h⟩
 | k + 1 => by
  obtain ⟨ih0, ih1⟩ := impl_OverdueTrips.mono_l k
  refine ⟨?_, ?_⟩
  ·intro y0 y1 y2
   unfold impl_OverdueTrips.j0
   repeat' with_reducible first | apply ih0 | apply ih1 | apply impl_areTrips.mono | exact LeO.refl _ | exact LeO.none _ | refine LeO.ite ?_ ?_ | refine LeO.bind ?_ (fun _ => ?_)
  ·intro y0 y1 y2 y3 y4
   unfold impl_OverdueTrips.l0
   repeat' with_reducible first | apply ih0 | apply ih1 | apply impl_areTrips.mono | exact LeO.refl _ | exact LeO.none _ | refine LeO.ite ?_ ?_ | refine LeO.bind ?_ (fun _ => ?_)
theorem impl_OverdueTrips.mono : ∀ a0 a1 k, LeO (impl_OverdueTrips.f k a0 a1) (impl_OverdueTrips.f (k + 1) a0 a1) := by
 intro a0 a1 k
 obtain ⟨ih0, ih1⟩ := impl_OverdueTrips.mono_l k
 unfold impl_OverdueTrips.f
 repeat' with_reducible first | apply ih0 | apply ih1 | apply impl_areTrips.mono | exact LeO.refl _ | exact LeO.none _ | refine LeO.ite ?_ ?_ | refine LeO.bind ?_ (fun _ => ?_)
set_option maxHeartbeats 8000000 in
set_option maxRecDepth 100000 in
theorem impl_OverdueTrips.calls (k : Nat) (A0 : Option Addr) (c0 : Nat) (l0 : List (S25)) (a1 : Int) (r1 : List Int) (r2 : Bool) (w : World) (hr0 : Kd.C k25 w A0 l0.length l0) (hc0 : l0.length ≤ c0) (h : impl_OverdueTrips.f k l0 a1 = some (r1, r2)) :
  Calls Tryz.prog 12 #[.slice A0 l0.length c0, .int .i64 a1] w fun e w' => ∃ v0_ : Value, e = .returned (.tuple #[v0_, .bool r2]) ∧ Kd.R (Kd.int .i64) 3 w' w.heap.size (fun _ => True) v0_ r1 ∧ Below w.heap.size w w' := by
 have hu25 := Tryz.underlying25
 have HR0 := Aside0.mk hr0
 have HC0 := Aside0.mk hc0
 clear hr0 hc0
 have HB := Aside0.mk (Below.refl w.heap.size w)
 have H := h
 clear h
 unfold impl_OverdueTrips.f at H
 have HC3 := Aside0.mk H
 clear H
 go_enter Tryz.func12, Tryz.ntmps12
 go_upto_region 1 with (fail)
 go_cut [16] (fun v16 wc => ∃ (kq : Nat) (x16_2 : Bool), v16 = .bool x16_2 ∧ Aside0 (impl_OverdueTrips.j0 kq l0 a1 x16_2 = some (r1, r2)) ∧ Aside0 (kq ≤ k) ∧ Aside0 (Below w.heap.size w wc))
 case first =>
  have H := HC3.out
  clear HC3
  replace H := bA H
  obtain ⟨t399, A4, H⟩ := H
  rcases Bool.eq_false_or_eq_true t399 with rfl | rfl
  ·replace H := iT rfl H
   replace H := bA H
   obtain ⟨t400, A6, H⟩ := H
   have H' := Aside0.mk H
   clear H
   go_wp2_with (first | ((with_reducible refine gC 35 ?_); refine lA (some 10) Tryz.func35 (impl_areTrips.calls k _ _ l0 true _ ?side1 ?side2 A4.out) ?_; (case side1 => repeat (first | exact (Kd.C_below HR0.out HB.out) | (with_reducible refine Kd.C_alloc ?_ _) | (with_reducible refine Kd.C_drewN ?_ _) | (with_reducible refine Kd.C_drew ?_))); (case side2 => exact HC0.out); intro w7 hb; replace HB := uB HB hb; (try clear hb); (try clear hk)) | (go_at_call 36; (with_reducible refine (impl_isTime.calls a1 t400 _ A6.out).mono ?_); rintro e w' ⟨rfl, ⟨nd, rfl⟩⟩))
   go_meet
   case rel => exact ⟨_, (!t400), rB, H', leB, (aB HB)⟩
  ·replace H := iF (by decide) H
   have H' := Aside0.mk H
   clear H
   go_wp2_with (first | ((with_reducible refine gC 35 ?_); refine lA (some 10) Tryz.func35 (impl_areTrips.calls k _ _ l0 false _ ?side1 ?side2 A4.out) ?_; (case side1 => repeat (first | exact (Kd.C_below HR0.out HB.out) | (with_reducible refine Kd.C_alloc ?_ _) | (with_reducible refine Kd.C_drewN ?_ _) | (with_reducible refine Kd.C_drew ?_))); (case side2 => exact HC0.out); intro w8 hb; replace HB := uB HB hb; (try clear hb); (try clear hk)))
   go_meet
   case rel => exact ⟨_, (true), rB, H', leB, (aB HB)⟩
 case rest =>
  clear HC3
  obtain ⟨kq, x16_2, rfl, HA, HJ2, HB⟩ := hcut
  cases kq with
  | zero => exact absurd HA.out (by simp [impl_OverdueTrips.j0])
  | succ kj2 =>
   have H := HA.out
   clear HA
   simp only [impl_OverdueTrips.j0] at H
   rcases Bool.eq_false_or_eq_true x16_2 with rfl | rfl
   ·replace H := iT rfl H
    simp only [Option.some.injEq, Prod.mk.injEq] at H
    obtain ⟨rfl, rfl⟩ := H
    go_wp2
    go_ret2
    exact ⟨_, eB, by first | exact Kd.R_nil _ _ _ _ _ | exact Kd.N_nil _ _ _ _ _ | exact Kd.V_nil _ _ _ _ _ | exact Kd.Q_nil _ _ _ _ _ | exact Kd.S_nil _ _ _ _ _, (bW HB)⟩
   ·replace H := iF (by decide) H
    have H' := Aside0.mk H
    clear H
    go_wp2
    go_loopg [6, 19] kj2 (fun kq v6 v19 w' => ∃ (x6_2 : List Int) (x19_2 : Int), v19 = .int .i64 x19_2 ∧ Aside0 (impl_OverdueTrips.l0 kq a1 x6_2 l0 (l0.length : Int) x19_2 = some (r1, r2)) ∧ Aside0 (kq ≤ kj2) ∧ Aside0 (Kd.R (Kd.int .i64) 3 w' w.heap.size (fun _ => True) v6 x6_2) ∧ Aside0 (Below w.heap.size w w'))
    case atStart => exact ⟨(([] : List Int)), (0), rB, H', ⟨Nat.le_refl _⟩, ⟨by first | exact Kd.R_nil _ _ _ _ _ | exact Kd.N_nil _ _ _ _ _ | exact Kd.V_nil _ _ _ _ _ | exact Kd.Q_nil _ _ _ _ _ | exact Kd.S_nil _ _ _ _ _⟩, (aB HB)⟩
    case round =>
     clear H'
     obtain ⟨x6_2, x19_2, rfl, HA, HK2, HO_6, HB⟩ := hrel
     cases gk with
     | zero => exact absurd HA.out (by simp [impl_OverdueTrips.l0])
     | succ k2 =>
      have H := HA.out
      clear HA
      simp only [impl_OverdueTrips.l0] at H
      replace H := ifD H
      rcases H with ⟨H, -, c10b0⟩ | ⟨H, -, c10b0⟩
      ·by_cases c11 : 0 ≤ x19_2
       ·rw [if_pos c11] at H
        have c11b0 : decide (0 ≤ x19_2) = true := decide_eq_true c11
        clear c11
        by_cases c12 : x19_2 < (l0.length : Int)
        ·rw [if_pos c12] at H
         have c12b0 : decide (x19_2 < (l0.length : Int)) = true := decide_eq_true c12
         clear c12
         replace H := ifI H
         rcases H with ⟨H, -, c13b0, c13b1⟩ | ⟨H, c13, c13b0, c13b1⟩
         ·by_cases c14 : x6_2.length < 17592186044416
          ·rw [if_pos c14] at H
           have LMc14 := Aside0.mk c14
           clear c14
           obtain ⟨y403, hy403⟩ : ∃ y_ : List Int, y_ = (x6_2 ++ [x19_2]) := ⟨_, rfl⟩
           replace H : (impl_OverdueTrips.l0 k2 a1 y403 l0 (l0.length : Int) (wrap64 (x19_2 + 1))) = some (r1, r2) := by first | (rw [hy403]; with_reducible exact H) | (have H2_ := (Option.bind_some _ _).symm.trans H; rw [hy403]; with_reducible exact H2_) | (have H2_ := (Option.bind_some _ _).symm.trans H; with_reducible exact H2_) | with_reducible exact H | (rw [hy403]; exact H) | exact H
           have Ny403 := Aside0.mk hy403
           clear hy403
           have H' := Aside0.mk H
           clear H
           have p401 : 0 ≤ (x19_2 : Int) := of_decide_eq_true asmB
           have q401 : x19_2 < (l0.length : Int) := of_decide_eq_true asmB
           obtain ⟨ad401, e401, hx401_0, hx401_1, hx401_2, hx401_3, hx401_4⟩ := at_T25 HR0.out x19_2 p401 q401
           cases e401
           replace hx401_0 := bx HB.out hx401_0
           replace hx401_1 := bx HB.out hx401_1
           replace hx401_2 := bx HB.out hx401_2
           replace hx401_3 := bx HB.out hx401_3
           replace hx401_4 := bx HB.out hx401_4
           replace p401 := eq_true p401
           replace q401 := eq_true q401
           go_wp2_with (first | ((with_reducible refine gD 8 ?_); refine bxE 8 25 #[.int .i64 0, .int .i64 0, .int .i64 0, .int .i64 0, .int .i64 0] fun gb402 w15 hg hbox hb => ?_; have BK402 := Aside0.mk hbox; have GE402 := gB HB hg; replace HO_6 := uR HO_6 hb; replace HB := uB HB hb; clear hb hbox hg; have ⟨hcz16_0, hcz16_1, hcz16_2, hcz16_3, hcz16_4, hfz16_0⟩ := cz5 BK402) | ((with_reducible refine gate_builtin (b := .append) (xs := #[.tmp 43, .tmp 45]) rfl ?_); at_builtin; refine Kd.R_append (Kd.int .i64) (w0 := w) w.heap.size rfl (.tmp 43) (.tmp 45) 35 3 (.int .i64 0) 8 rfl Tryz.underlying35 info3 rfl (by decide) (by omega) u6 x6_2 x19_2 [.int .i64 x19_2] (fun _ => True) (fun _ => False) rfl (by first | (go_simp; done) | (go_simp; rfl)) ?aP (fun _ hk => hk.elim) ?aF ?aO ?aB ?aS ?aL ?_; (case aP => exact rfl); (case aB => exact (bW HB)); (case aF => exact (fun _ _ => trivial)); (case aO => exact (by (with_reducible repeat (first | apply Kd.R_alloc | apply Kd.R_drewN | apply Kd.R_drew)); exact Kd.R_mono (Kd.R_far (p := ⟨gb402, 4, none⟩) (Kd.R_far (p := ⟨gb402, 3, none⟩) (Kd.R_far (p := ⟨gb402, 2, none⟩) (Kd.R_far (p := ⟨gb402, 1, none⟩) (Kd.R_far (p := ⟨gb402, 0, none⟩) (Kd.R_types HO_6.out BK402.out (by decide)) (fun _ hk => hk.2) (.int .i64 ((rd_T25 l0 x19_2).f0))) (fun _ hk => hk.2) (.int .i64 ((rd_T25 l0 x19_2).f1))) (fun _ hk => hk.2) (.int .i64 ((rd_T25 l0 x19_2).f2))) (fun _ hk => hk.2) (.int .i64 ((rd_T25 l0 x19_2).f3))) (fun _ hk => hk.2) (.int .i64 ((rd_T25 l0 x19_2).f4))) (fun _ hk => trivial))); (case aS => exact (below_size (bW HB))); (case aL => have := LMc14.out; omega); intro v404 w17 ho hb hg hat; rw [← Ny403.out] at ho; have HO405 := Aside0.mk (ho); replace BK402 := Aside0.mk (blk_grown (g := gb402) (o := .cells #[.int .i64 ((rd_T25 l0 x19_2).f0), .int .i64 ((rd_T25 l0 x19_2).f1), .int .i64 ((rd_T25 l0 x19_2).f2), .int .i64 ((rd_T25 l0 x19_2).f3), .int .i64 ((rd_T25 l0 x19_2).f4)] 25 (0, 0)) (by exact pW BK402) hg (Kd.R_ne HO_6.out BK402.out (by decide))); replace HB := Aside0.mk (hb); clear HO_6; clear ho hb hg hat))
           go_roundg k2
           case measure => have := HJ2.out; have := HK2.out; omega
           case rel => exact ⟨(y403), (wrap64 (x19_2 + 1)), rB, H', ⟨by have := HJ2.out; have := HK2.out; omega⟩, ⟨upR HO405.out⟩, (aB HB)⟩
          ·rw [if_neg c14] at H
           exact absurd H (by simp)
         ·replace H := ifI H
          rcases H with ⟨H, -, c18b0, c18b1⟩ | ⟨H, c18, c18b0, c18b1⟩
          ·by_cases c19 : x6_2.length < 17592186044416
           ·rw [if_pos c19] at H
            have LMc19 := Aside0.mk c19
            clear c19
            obtain ⟨y406, hy406⟩ : ∃ y_ : List Int, y_ = (x6_2 ++ [x19_2]) := ⟨_, rfl⟩
            replace H : (impl_OverdueTrips.l0 k2 a1 y406 l0 (l0.length : Int) (wrap64 (x19_2 + 1))) = some (r1, r2) := by first | (rw [hy406]; with_reducible exact H) | (have H2_ := (Option.bind_some _ _).symm.trans H; rw [hy406]; with_reducible exact H2_) | (have H2_ := (Option.bind_some _ _).symm.trans H; with_reducible exact H2_) | with_reducible exact H | (rw [hy406]; exact H) | exact H
            have Ny406 := Aside0.mk hy406
            clear hy406
            have H' := Aside0.mk H
            clear H
            have p401 : 0 ≤ (x19_2 : Int) := of_decide_eq_true asmB
            have q401 : x19_2 < (l0.length : Int) := of_decide_eq_true asmB
            obtain ⟨ad401, e401, hx401_0, hx401_1, hx401_2, hx401_3, hx401_4⟩ := at_T25 HR0.out x19_2 p401 q401
            cases e401
            replace hx401_0 := bx HB.out hx401_0
            replace hx401_1 := bx HB.out hx401_1
            replace hx401_2 := bx HB.out hx401_2
            replace hx401_3 := bx HB.out hx401_3
            replace hx401_4 := bx HB.out hx401_4
            replace p401 := eq_true p401
            replace q401 := eq_true q401
            go_wp2_with (first | ((with_reducible refine gD 8 ?_); refine bxE 8 25 #[.int .i64 0, .int .i64 0, .int .i64 0, .int .i64 0, .int .i64 0] fun gb402 w20 hg hbox hb => ?_; have BK402 := Aside0.mk hbox; have GE402 := gB HB hg; replace HO_6 := uR HO_6 hb; replace HB := uB HB hb; clear hb hbox hg; have ⟨hcz21_0, hcz21_1, hcz21_2, hcz21_3, hcz21_4, hfz21_0⟩ := cz5 BK402) | ((with_reducible refine gate_builtin (b := .append) (xs := #[.tmp 43, .tmp 45]) rfl ?_); at_builtin; refine Kd.R_append (Kd.int .i64) (w0 := w) w.heap.size rfl (.tmp 43) (.tmp 45) 35 3 (.int .i64 0) 8 rfl Tryz.underlying35 info3 rfl (by decide) (by omega) u6 x6_2 x19_2 [.int .i64 x19_2] (fun _ => True) (fun _ => False) rfl (by first | (go_simp; done) | (go_simp; rfl)) ?aP (fun _ hk => hk.elim) ?aF ?aO ?aB ?aS ?aL ?_; (case aP => exact rfl); (case aB => exact (bW HB)); (case aF => exact (fun _ _ => trivial)); (case aO => exact (by (with_reducible repeat (first | apply Kd.R_alloc | apply Kd.R_drewN | apply Kd.R_drew)); exact Kd.R_mono (Kd.R_far (p := ⟨gb402, 4, none⟩) (Kd.R_far (p := ⟨gb402, 3, none⟩) (Kd.R_far (p := ⟨gb402, 2, none⟩) (Kd.R_far (p := ⟨gb402, 1, none⟩) (Kd.R_far (p := ⟨gb402, 0, none⟩) (Kd.R_types HO_6.out BK402.out (by decide)) (fun _ hk => hk.2) (.int .i64 ((rd_T25 l0 x19_2).f0))) (fun _ hk => hk.2) (.int .i64 ((rd_T25 l0 x19_2).f1))) (fun _ hk => hk.2) (.int .i64 ((rd_T25 l0 x19_2).f2))) (fun _ hk => hk.2) (.int .i64 ((rd_T25 l0 x19_2).f3))) (fun _ hk => hk.2) (.int .i64 ((rd_T25 l0 x19_2).f4))) (fun _ hk => trivial))); (case aS => exact (below_size (bW HB))); (case aL => have := LMc19.out; omega); intro v407 w22 ho hb hg hat; rw [← Ny406.out] at ho; have HO408 := Aside0.mk (ho); replace BK402 := Aside0.mk (blk_grown (g := gb402) (o := .cells #[.int .i64 ((rd_T25 l0 x19_2).f0), .int .i64 ((rd_T25 l0 x19_2).f1), .int .i64 ((rd_T25 l0 x19_2).f2), .int .i64 ((rd_T25 l0 x19_2).f3), .int .i64 ((rd_T25 l0 x19_2).f4)] 25 (0, 0)) (by exact pW BK402) hg (Kd.R_ne HO_6.out BK402.out (by decide))); replace HB := Aside0.mk (hb); clear HO_6; clear ho hb hg hat))
            go_roundg k2
            case measure => have := HJ2.out; have := HK2.out; omega
            case rel => exact ⟨(y406), (wrap64 (x19_2 + 1)), rB, H', ⟨by have := HJ2.out; have := HK2.out; omega⟩, ⟨upR HO408.out⟩, (aB HB)⟩
           ·rw [if_neg c19] at H
            exact absurd H (by simp)
          ·replace H := ifI H
           rcases H with ⟨H, -, c23b0, c23b1⟩ | ⟨H, c23, c23b0, c23b1⟩
           ·replace H := ifD H
            rcases H with ⟨H, -, c24b0⟩ | ⟨H, -, c24b0⟩
            ·by_cases c25 : x6_2.length < 17592186044416
             ·rw [if_pos c25] at H
              have LMc25 := Aside0.mk c25
              clear c25
              obtain ⟨y409, hy409⟩ : ∃ y_ : List Int, y_ = (x6_2 ++ [x19_2]) := ⟨_, rfl⟩
              replace H : (impl_OverdueTrips.l0 k2 a1 y409 l0 (l0.length : Int) (wrap64 (x19_2 + 1))) = some (r1, r2) := by first | (rw [hy409]; with_reducible exact H) | (have H2_ := (Option.bind_some _ _).symm.trans H; rw [hy409]; with_reducible exact H2_) | (have H2_ := (Option.bind_some _ _).symm.trans H; with_reducible exact H2_) | with_reducible exact H | (rw [hy409]; exact H) | exact H
              have Ny409 := Aside0.mk hy409
              clear hy409
              have H' := Aside0.mk H
              clear H
              have p401 : 0 ≤ (x19_2 : Int) := of_decide_eq_true asmB
              have q401 : x19_2 < (l0.length : Int) := of_decide_eq_true asmB
              obtain ⟨ad401, e401, hx401_0, hx401_1, hx401_2, hx401_3, hx401_4⟩ := at_T25 HR0.out x19_2 p401 q401
              cases e401
              replace hx401_0 := bx HB.out hx401_0
              replace hx401_1 := bx HB.out hx401_1
              replace hx401_2 := bx HB.out hx401_2
              replace hx401_3 := bx HB.out hx401_3
              replace hx401_4 := bx HB.out hx401_4
              replace p401 := eq_true p401
              replace q401 := eq_true q401
              go_wp2_with (first | ((with_reducible refine gD 8 ?_); refine bxE 8 25 #[.int .i64 0, .int .i64 0, .int .i64 0, .int .i64 0, .int .i64 0] fun gb402 w26 hg hbox hb => ?_; have BK402 := Aside0.mk hbox; have GE402 := gB HB hg; replace HO_6 := uR HO_6 hb; replace HB := uB HB hb; clear hb hbox hg; have ⟨hcz27_0, hcz27_1, hcz27_2, hcz27_3, hcz27_4, hfz27_0⟩ := cz5 BK402) | ((with_reducible refine gate_builtin (b := .append) (xs := #[.tmp 43, .tmp 45]) rfl ?_); at_builtin; refine Kd.R_append (Kd.int .i64) (w0 := w) w.heap.size rfl (.tmp 43) (.tmp 45) 35 3 (.int .i64 0) 8 rfl Tryz.underlying35 info3 rfl (by decide) (by omega) u6 x6_2 x19_2 [.int .i64 x19_2] (fun _ => True) (fun _ => False) rfl (by first | (go_simp; done) | (go_simp; rfl)) ?aP (fun _ hk => hk.elim) ?aF ?aO ?aB ?aS ?aL ?_; (case aP => exact rfl); (case aB => exact (bW HB)); (case aF => exact (fun _ _ => trivial)); (case aO => exact (by (with_reducible repeat (first | apply Kd.R_alloc | apply Kd.R_drewN | apply Kd.R_drew)); exact Kd.R_mono (Kd.R_far (p := ⟨gb402, 4, none⟩) (Kd.R_far (p := ⟨gb402, 3, none⟩) (Kd.R_far (p := ⟨gb402, 2, none⟩) (Kd.R_far (p := ⟨gb402, 1, none⟩) (Kd.R_far (p := ⟨gb402, 0, none⟩) (Kd.R_types HO_6.out BK402.out (by decide)) (fun _ hk => hk.2) (.int .i64 ((rd_T25 l0 x19_2).f0))) (fun _ hk => hk.2) (.int .i64 ((rd_T25 l0 x19_2).f1))) (fun _ hk => hk.2) (.int .i64 ((rd_T25 l0 x19_2).f2))) (fun _ hk => hk.2) (.int .i64 ((rd_T25 l0 x19_2).f3))) (fun _ hk => hk.2) (.int .i64 ((rd_T25 l0 x19_2).f4))) (fun _ hk => trivial))); (case aS => exact (below_size (bW HB))); (case aL => have := LMc25.out; omega); intro v410 w28 ho hb hg hat; rw [← Ny409.out] at ho; have HO411 := Aside0.mk (ho); replace BK402 := Aside0.mk (blk_grown (g := gb402) (o := .cells #[.int .i64 ((rd_T25 l0 x19_2).f0), .int .i64 ((rd_T25 l0 x19_2).f1), .int .i64 ((rd_T25 l0 x19_2).f2), .int .i64 ((rd_T25 l0 x19_2).f3), .int .i64 ((rd_T25 l0 x19_2).f4)] 25 (0, 0)) (by exact pW BK402) hg (Kd.R_ne HO_6.out BK402.out (by decide))); replace HB := Aside0.mk (hb); clear HO_6; clear ho hb hg hat))
              go_roundg k2
              case measure => have := HJ2.out; have := HK2.out; omega
              case rel => exact ⟨(y409), (wrap64 (x19_2 + 1)), rB, H', ⟨by have := HJ2.out; have := HK2.out; omega⟩, ⟨upR HO411.out⟩, (aB HB)⟩
             ·rw [if_neg c25] at H
              exact absurd H (by simp)
            ·have H' := Aside0.mk H
             clear H
             have p401 : 0 ≤ (x19_2 : Int) := of_decide_eq_true asmB
             have q401 : x19_2 < (l0.length : Int) := of_decide_eq_true asmB
             obtain ⟨ad401, e401, hx401_0, hx401_1, hx401_2, hx401_3, hx401_4⟩ := at_T25 HR0.out x19_2 p401 q401
             cases e401
             replace hx401_0 := bx HB.out hx401_0
             replace hx401_1 := bx HB.out hx401_1
             replace hx401_2 := bx HB.out hx401_2
             replace hx401_3 := bx HB.out hx401_3
             replace hx401_4 := bx HB.out hx401_4
             replace p401 := eq_true p401
             replace q401 := eq_true q401
             go_wp2_with (first | ((with_reducible refine gD 8 ?_); refine bxE 8 25 #[.int .i64 0, .int .i64 0, .int .i64 0, .int .i64 0, .int .i64 0] fun gb402 w29 hg hbox hb => ?_; have BK402 := Aside0.mk hbox; have GE402 := gB HB hg; replace HO_6 := uR HO_6 hb; replace HB := uB HB hb; clear hb hbox hg; have ⟨hcz30_0, hcz30_1, hcz30_2, hcz30_3, hcz30_4, hfz30_0⟩ := cz5 BK402))
             go_roundg k2
             case measure => have := HJ2.out; have := HK2.out; omega
             case rel => exact ⟨(x6_2), (wrap64 (x19_2 + 1)), rB, H', ⟨by have := HJ2.out; have := HK2.out; omega⟩, ⟨by (with_reducible repeat (first | apply Kd.R_alloc | apply Kd.R_drewN | apply Kd.R_drew)); exact Kd.R_mono (Kd.R_far (p := ⟨gb402, 4, none⟩) (Kd.R_far (p := ⟨gb402, 3, none⟩) (Kd.R_far (p := ⟨gb402, 2, none⟩) (Kd.R_far (p := ⟨gb402, 1, none⟩) (Kd.R_far (p := ⟨gb402, 0, none⟩) (Kd.R_types HO_6.out BK402.out (by decide)) (fun _ hk => hk.2) (.int .i64 ((rd_T25 l0 x19_2).f0))) (fun _ hk => hk.2) (.int .i64 ((rd_T25 l0 x19_2).f1))) (fun _ hk => hk.2) (.int .i64 ((rd_T25 l0 x19_2).f2))) (fun _ hk => hk.2) (.int .i64 ((rd_T25 l0 x19_2).f3))) (fun _ hk => hk.2) (.int .i64 ((rd_T25 l0 x19_2).f4))) (fun _ hk => trivial)⟩, (aB HB)⟩
           ·have H' := Aside0.mk H
            clear H
            have p401 : 0 ≤ (x19_2 : Int) := of_decide_eq_true asmB
            have q401 : x19_2 < (l0.length : Int) := of_decide_eq_true asmB
            obtain ⟨ad401, e401, hx401_0, hx401_1, hx401_2, hx401_3, hx401_4⟩ := at_T25 HR0.out x19_2 p401 q401
            cases e401
            replace hx401_0 := bx HB.out hx401_0
            replace hx401_1 := bx HB.out hx401_1
            replace hx401_2 := bx HB.out hx401_2
            replace hx401_3 := bx HB.out hx401_3
            replace hx401_4 := bx HB.out hx401_4
            replace p401 := eq_true p401
            replace q401 := eq_true q401
            go_wp2_with (first | ((with_reducible refine gD 8 ?_); refine bxE 8 25 #[.int .i64 0, .int .i64 0, .int .i64 0, .int .i64 0, .int .i64 0] fun gb402 w31 hg hbox hb => ?_; have BK402 := Aside0.mk hbox; have GE402 := gB HB hg; replace HO_6 := uR HO_6 hb; replace HB := uB HB hb; clear hb hbox hg; have ⟨hcz32_0, hcz32_1, hcz32_2, hcz32_3, hcz32_4, hfz32_0⟩ := cz5 BK402))
            go_roundg k2
            case measure => have := HJ2.out; have := HK2.out; omega
            case rel => exact ⟨(x6_2), (wrap64 (x19_2 + 1)), rB, H', ⟨by have := HJ2.out; have := HK2.out; omega⟩, ⟨by (with_reducible repeat (first | apply Kd.R_alloc | apply Kd.R_drewN | apply Kd.R_drew)); exact Kd.R_mono (Kd.R_far (p := ⟨gb402, 4, none⟩) (Kd.R_far (p := ⟨gb402, 3, none⟩) (Kd.R_far (p := ⟨gb402, 2, none⟩) (Kd.R_far (p := ⟨gb402, 1, none⟩) (Kd.R_far (p := ⟨gb402, 0, none⟩) (Kd.R_types HO_6.out BK402.out (by decide)) (fun _ hk => hk.2) (.int .i64 ((rd_T25 l0 x19_2).f0))) (fun _ hk => hk.2) (.int .i64 ((rd_T25 l0 x19_2).f1))) (fun _ hk => hk.2) (.int .i64 ((rd_T25 l0 x19_2).f2))) (fun _ hk => hk.2) (.int .i64 ((rd_T25 l0 x19_2).f3))) (fun _ hk => hk.2) (.int .i64 ((rd_T25 l0 x19_2).f4))) (fun _ hk => trivial)⟩, (aB HB)⟩
        ·rw [if_neg c12] at H
         exact absurd H (by simp)
       ·rw [if_neg c11] at H
        exact absurd H (by simp)
      ·simp only [Option.some.injEq, Prod.mk.injEq] at H
       obtain ⟨rfl, rfl⟩ := H
       go_wp2
       go_ret2
       exact ⟨_, eB, upR HO_6.out, (bW HB)⟩

/-! ### spec_l21All: function 37 -/
def spec_l21All.l0 : Nat → List (S25) → Int → Option (Bool)
 | 0, _, _ => none
 | k + 1, x0, x3 => if x3 < (x0.length : Int) then (if 0 ≤ x3 then ((spec_l21Good.f k ((rd_T25 x0 x3).f0) ((rd_T25 x0 x3).f1) ((rd_T25 x0 x3).f2) ((rd_T25 x0 x3).f3) ((rd_T25 x0 x3).f4)).bind fun t413 => (if t413 = true then (spec_l21All.l0 k x0 (wrap64 (x3 + 1))) else (some false))) else (none)) else (some true)
def spec_l21All.f (k : Nat) (l0 : List (S25)) : Option (Bool) := spec_l21All.l0 k l0 0
theorem spec_l21All.mono_l : ∀ k, (∀ y0 y1, LeO (spec_l21All.l0 k y0 y1) (spec_l21All.l0 (k + 1) y0 y1))
 | 0 => fun _ _ r h => by simp [spec_l21All.l0] at h
 | k + 1 => by
  have ih0 := spec_l21All.mono_l k
  ·intro y0 y1
   unfold spec_l21All.l0
   repeat' with_reducible first | apply ih0 | apply spec_l21Good.mono | exact LeO.refl _ | exact LeO.none _ | refine LeO.ite ?_ ?_ | refine LeO.bind ?_ (fun _ => ?_)
theorem spec_l21All.mono : ∀ a0 k, LeO (spec_l21All.f k a0) (spec_l21All.f (k + 1) a0) := by
 intro a0 k
 have ih0 := spec_l21All.mono_l k
 unfold spec_l21All.f
 repeat' with_reducible first | apply ih0 | apply spec_l21Good.mono | exact LeO.refl _ | exact LeO.none _ | refine LeO.ite ?_ ?_ | refine LeO.bind ?_ (fun _ => ?_)
set_option maxHeartbeats 8000000 in
set_option maxRecDepth 100000 in
theorem spec_l21All.calls (k : Nat) (A0 : Option Addr) (c0 : Nat) (l0 : List (S25)) (r : Bool) (w : World) (hr0 : Kd.C k25 w A0 l0.length l0) (hc0 : l0.length ≤ c0) (h : spec_l21All.f k l0 = some r) :
  Calls Tryz.prog 37 #[.slice A0 l0.length c0] w fun e w' => e = .returned (.bool r) ∧ Below w.heap.size w w' := by
 have hu25 := Tryz.underlying25
 have HR0 := Aside0.mk hr0
 have HC0 := Aside0.mk hc0
 clear hr0 hc0
 have HB := Aside0.mk (Below.refl w.heap.size w)
 have H : (spec_l21All.l0 k l0 0) = some r := h
 clear h
 have H' := Aside0.mk H
 clear H
 go_enter Tryz.func37, Tryz.ntmps37
 go_wp2
 go_loopg [3] k (fun kq v3 w' => ∃ (x3_1 : Int), v3 = .int .i64 x3_1 ∧ Aside0 (spec_l21All.l0 kq l0 x3_1 = some r) ∧ Aside0 (kq ≤ k) ∧ Aside0 (Below w.heap.size w w'))
 case atStart => exact ⟨(0), rB, H', ⟨Nat.le_refl _⟩, (aB HB)⟩
 case round =>
  clear H'
  obtain ⟨x3_1, rfl, HA, HK1, HB⟩ := hrel
  cases gk with
  | zero => exact absurd HA.out (by simp [spec_l21All.l0])
  | succ k1 =>
   have H := HA.out
   clear HA
   simp only [spec_l21All.l0] at H
   replace H := ifD H
   rcases H with ⟨H, -, c2b0⟩ | ⟨H, -, c2b0⟩
   ·by_cases c3 : 0 ≤ x3_1
    ·rw [if_pos c3] at H
     have c3b0 : decide (0 ≤ x3_1) = true := decide_eq_true c3
     clear c3
     replace H := bA H
     obtain ⟨t413, A4, H⟩ := H
     rcases Bool.eq_false_or_eq_true t413 with rfl | rfl
     ·replace H := iT rfl H
      have H' := Aside0.mk H
      clear H
      have p412 : 0 ≤ (x3_1 : Int) := of_decide_eq_true asmB
      have q412 : x3_1 < (l0.length : Int) := of_decide_eq_true asmB
      obtain ⟨ad412, e412, hx412_0, hx412_1, hx412_2, hx412_3, hx412_4⟩ := at_T25 HR0.out x3_1 p412 q412
      cases e412
      replace hx412_0 := bx HB.out hx412_0
      replace hx412_1 := bx HB.out hx412_1
      replace hx412_2 := bx HB.out hx412_2
      replace hx412_3 := bx HB.out hx412_3
      replace hx412_4 := bx HB.out hx412_4
      replace p412 := eq_true p412
      replace q412 := eq_true q412
      go_wp2_with (first | ((with_reducible refine gC 26 ?_); refine lA (some 14) Tryz.func26 (spec_l21Good.calls k1 ((rd_T25 l0 x3_1).f0) ((rd_T25 l0 x3_1).f1) ((rd_T25 l0 x3_1).f2) ((rd_T25 l0 x3_1).f3) ((rd_T25 l0 x3_1).f4) true _ A4.out) ?_; intro w6 hb; replace HB := uB HB hb; (try clear hb)))
      go_roundg k1
      case measure => have := HK1.out; omega
      case rel => exact ⟨(wrap64 (x3_1 + 1)), rB, H', ⟨by have := HK1.out; omega⟩, (aB HB)⟩
     ·replace H := iF (by decide) H
      obtain rfl := Option.some.inj H
      have p412 : 0 ≤ (x3_1 : Int) := of_decide_eq_true asmB
      have q412 : x3_1 < (l0.length : Int) := of_decide_eq_true asmB
      obtain ⟨ad412, e412, hx412_0, hx412_1, hx412_2, hx412_3, hx412_4⟩ := at_T25 HR0.out x3_1 p412 q412
      cases e412
      replace hx412_0 := bx HB.out hx412_0
      replace hx412_1 := bx HB.out hx412_1
      replace hx412_2 := bx HB.out hx412_2
      replace hx412_3 := bx HB.out hx412_3
      replace hx412_4 := bx HB.out hx412_4
      replace p412 := eq_true p412
      replace q412 := eq_true q412
      go_wp2_with (first | ((with_reducible refine gC 26 ?_); refine lA (some 14) Tryz.func26 (spec_l21Good.calls k1 ((rd_T25 l0 x3_1).f0) ((rd_T25 l0 x3_1).f1) ((rd_T25 l0 x3_1).f2) ((rd_T25 l0 x3_1).f3) ((rd_T25 l0 x3_1).f4) false _ A4.out) ?_; intro w7 hb; replace HB := uB HB hb; (try clear hb)))
      go_ret
      exact ⟨eB, (bW HB)⟩
    ·rw [if_neg c3] at H
     exact absurd H (by simp)
   ·obtain rfl := Option.some.inj H
    go_wp2
    go_ret
    exact ⟨eB, (bW HB)⟩

/-! ### spec_OverdueTrips: function 13 -/
mutual
def spec_OverdueTrips.j0 : Nat → List (S25) → Int → List Int → Bool → Option (List Int × Bool)
 | 0, _, _, _, _ => none
 | k + 1, x0, x1, x6, x17 => if x17 = true then (some (x6, false)) else (spec_OverdueTrips.l0 k x0 x1 x6 0)
def spec_OverdueTrips.l0 : Nat → List (S25) → Int → List Int → Int → Option (List Int × Bool)
 | 0, _, _, _, _ => none
 | k + 1, x0, x1, x6, x7 => if x7 < (x0.length : Int) then (if 0 ≤ x7 then (if ((rd_T25 x0 x7).f0) = 2 then (if x6.length < 17592186044416 then (spec_OverdueTrips.l0 k x0 x1 (x6 ++ [x7]) (wrap64 (x7 + 1))) else (none)) else (if ((rd_T25 x0 x7).f0) = 3 then (if x6.length < 17592186044416 then (spec_OverdueTrips.l0 k x0 x1 (x6 ++ [x7]) (wrap64 (x7 + 1))) else (none)) else (if ((rd_T25 x0 x7).f0) = 1 then (if x1 > ((rd_T25 x0 x7).f3) then (if x6.length < 17592186044416 then (spec_OverdueTrips.l0 k x0 x1 (x6 ++ [x7]) (wrap64 (x7 + 1))) else (none)) else (spec_OverdueTrips.l0 k x0 x1 x6 (wrap64 (x7 + 1)))) else (spec_OverdueTrips.l0 k x0 x1 x6 (wrap64 (x7 + 1)))))) else (none)) else (some (x6, true))
end
def spec_OverdueTrips.f (k : Nat) (l0 : List (S25)) (a1 : Int) : Option (List Int × Bool) := (some (([] : List Int) : List Int)).bind fun y414 => ((spec_l21All.f k l0).bind fun t417 => (if t417 = true then ((spec_l21Time.f a1).bind fun t418 => (spec_OverdueTrips.j0 k l0 a1 y414 (!t418))) else (spec_OverdueTrips.j0 k l0 a1 y414 true)))
theorem spec_OverdueTrips.mono_l : ∀ k, (∀ y0 y1 y2 y3, LeO (spec_OverdueTrips.j0 k y0 y1 y2 y3) (spec_OverdueTrips.j0 (k + 1) y0 y1 y2 y3)) ∧ (∀ y0 y1 y2 y3, LeO (spec_OverdueTrips.l0 k y0 y1 y2 y3) (spec_OverdueTrips.l0 (k + 1) y0 y1 y2 y3))
 | 0 => ⟨fun _ _ _ _ r h => by simp [spec_OverdueTrips.j0] at h, fun _ _ _ _ r h => by simp [spec_OverdueTrips.l0] at h⟩
 | k + 1 => by
  obtain ⟨ih0, ih1⟩ := spec_OverdueTrips.mono_l k
  refine ⟨?_, ?_⟩
  ·intro y0 y1 y2 y3
   unfold spec_OverdueTrips.j0
   repeat' with_reducible first | apply ih0 | apply ih1 | apply spec_l21All.mono | exact LeO.refl _ | exact LeO.none _ | refine LeO.ite ?_ ?_ | refine LeO.bind ?_ (fun _ => ?_)
  ·intro y0 y1 y2 y3
   unfold spec_OverdueTrips.l0
   repeat' with_reducible first | apply ih0 | apply ih1 | apply spec_l21All.mono | exact LeO.refl _ | exact LeO.none _ | refine LeO.ite ?_ ?_ | refine LeO.bind ?_ (fun _ => ?_)
theorem spec_OverdueTrips.mono : ∀ a0 a1 k, LeO (spec_OverdueTrips.f k a0 a1) (spec_OverdueTrips.f (k + 1) a0 a1) := by
 intro a0 a1 k
 obtain ⟨ih0, ih1⟩ := spec_OverdueTrips.mono_l k
 unfold spec_OverdueTrips.f
 repeat' with_reducible first | apply ih0 | apply ih1 | apply spec_l21All.mono | exact LeO.refl _ | exact LeO.none _ | refine LeO.ite ?_ ?_ | refine LeO.bind ?_ (fun _ => ?_)
set_option maxHeartbeats 8000000 in
set_option maxRecDepth 100000 in
theorem spec_OverdueTrips.calls (k : Nat) (A0 : Option Addr) (c0 : Nat) (l0 : List (S25)) (a1 : Int) (r1 : List Int) (r2 : Bool) (w : World) (hr0 : Kd.C k25 w A0 l0.length l0) (hc0 : l0.length ≤ c0) (h : spec_OverdueTrips.f k l0 a1 = some (r1, r2)) :
  Calls Tryz.prog 13 #[.slice A0 l0.length c0, .int .i64 a1] w fun e w' => ∃ v0_ : Value, e = .returned (.tuple #[v0_, .bool r2]) ∧ Kd.R (Kd.int .i64) 3 w' w.heap.size (fun _ => True) v0_ r1 ∧ Below w.heap.size w w' := by
 have hu25 := Tryz.underlying25
 have HR0 := Aside0.mk hr0
 have HC0 := Aside0.mk hc0
 clear hr0 hc0
 have HB := Aside0.mk (Below.refl w.heap.size w)
 have H := h
 clear h
 unfold spec_OverdueTrips.f at H
 obtain ⟨y414, hy414⟩ : ∃ y_ : List Int, y_ = (([] : List Int)) := ⟨_, rfl⟩
 replace H : ((spec_l21All.f k l0).bind fun t417 => (if t417 = true then ((spec_l21Time.f a1).bind fun t418 => (spec_OverdueTrips.j0 k l0 a1 y414 (!t418))) else (spec_OverdueTrips.j0 k l0 a1 y414 true))) = some (r1, r2) := by first | (rw [hy414]; with_reducible exact H) | (have H2_ := (Option.bind_some _ _).symm.trans H; rw [hy414]; with_reducible exact H2_) | (have H2_ := (Option.bind_some _ _).symm.trans H; with_reducible exact H2_) | with_reducible exact H | (rw [hy414]; exact H) | exact H
 have Ny414 := Aside0.mk hy414
 clear hy414
 have HC3 := Aside0.mk H
 clear H
 go_enter Tryz.func13, Tryz.ntmps13
 go_upto_region 2 with (first | ((with_reducible refine gate_dst (N := 9) rfl ?_); refine Kd.R_lit (Kd.int .i64) _ 3 ?hg (N := 9) ?hd (xs := ([] : List Int)) (inner := []) (ok := fun _ => True) (okp := fun _ => True) ?hr ?hp (fun _ hk => hk) trivial (Below.refl _ _) (Nat.le_refl _) (by simp) ?_; (case hd => rfl); (case hg => rfl); (case hr => first | (go_simp; done) | (go_simp; rfl)); (case hp => exact (Reps.none _ _)); intro v415 w4 ho5 hb hg_ hnew_; clear hg_ hnew_; (first | rw [← Ny414.out] at ho5 | (simp only [Int.reduceToNat] at ho5; rw [← Ny414.out] at ho5)); have HO416 := Aside0.mk (Kd.R_lower ho5 (below_size (bW HB))); replace HB := uB HB hb; clear hb ho5))
 (try simp only [Act.put, List.setIfInBounds_toArray, List.set_cons_zero, List.set_cons_succ])
 go_cut [17] (fun v17 wc => ∃ (kq : Nat) (x17_2 : Bool), v17 = .bool x17_2 ∧ Aside0 (spec_OverdueTrips.j0 kq l0 a1 y414 x17_2 = some (r1, r2)) ∧ Aside0 (kq ≤ k) ∧ Aside0 (Kd.R (Kd.int .i64) 3 wc w.heap.size (fun _ => True) v415 y414) ∧ Aside0 (Below w.heap.size w wc))
 case first =>
  have H := HC3.out
  clear HC3
  replace H := bA H
  obtain ⟨t417, A6, H⟩ := H
  rcases Bool.eq_false_or_eq_true t417 with rfl | rfl
  ·replace H := iT rfl H
   replace H := bA H
   obtain ⟨t418, A8, H⟩ := H
   have H' := Aside0.mk H
   clear H
   go_wp2_with (first | ((with_reducible refine gC 37 ?_); refine lA (some 11) Tryz.func37 (spec_l21All.calls k _ _ l0 true _ ?side1 ?side2 A6.out) ?_; (case side1 => repeat (first | exact (Kd.C_below HR0.out HB.out) | (with_reducible refine Kd.C_alloc ?_ _) | (with_reducible refine Kd.C_drewN ?_ _) | (with_reducible refine Kd.C_drew ?_))); (case side2 => exact HC0.out); intro w9 hb; replace HO416 := uR HO416 hb; replace HB := uB HB hb; (try clear hb); (try clear hk)) | (go_at_call 38; (with_reducible refine (spec_l21Time.calls a1 t418 _ A8.out).mono ?_); rintro e w' ⟨rfl, ⟨nd, rfl⟩⟩))
   go_meet
   case rel => exact ⟨_, (!t418), rB, H', leB, ⟨upR HO416.out⟩, (aB HB)⟩
  ·replace H := iF (by decide) H
   have H' := Aside0.mk H
   clear H
   go_wp2_with (first | ((with_reducible refine gC 37 ?_); refine lA (some 11) Tryz.func37 (spec_l21All.calls k _ _ l0 false _ ?side1 ?side2 A6.out) ?_; (case side1 => repeat (first | exact (Kd.C_below HR0.out HB.out) | (with_reducible refine Kd.C_alloc ?_ _) | (with_reducible refine Kd.C_drewN ?_ _) | (with_reducible refine Kd.C_drew ?_))); (case side2 => exact HC0.out); intro w10 hb; replace HO416 := uR HO416 hb; replace HB := uB HB hb; (try clear hb); (try clear hk)))
   go_meet
   case rel => exact ⟨_, (true), rB, H', leB, ⟨upR HO416.out⟩, (aB HB)⟩
 case rest =>
  clear HC3
  obtain ⟨kq, x17_2, rfl, HA, HJ2, HO_6, HB⟩ := hcut
  cases kq with
  | zero => exact absurd HA.out (by simp [spec_OverdueTrips.j0])
  | succ kj2 =>
   have H := HA.out
   clear HA
   simp only [spec_OverdueTrips.j0] at H
   rcases Bool.eq_false_or_eq_true x17_2 with rfl | rfl
   ·replace H := iT rfl H
    simp only [Option.some.injEq, Prod.mk.injEq] at H
    obtain ⟨rfl, rfl⟩ := H
    go_wp2
    go_ret2
    exact ⟨_, eB, upR HO_6.out, (bW HB)⟩
   ·replace H := iF (by decide) H
    have H' := Aside0.mk H
    clear H
    go_wp2
    go_loopg [6, 7] kj2 (fun kq v6 v7 w' => ∃ (x6_2 : List Int) (x7_2 : Int), v7 = .int .i64 x7_2 ∧ Aside0 (spec_OverdueTrips.l0 kq l0 a1 x6_2 x7_2 = some (r1, r2)) ∧ Aside0 (kq ≤ kj2) ∧ Aside0 (Kd.R (Kd.int .i64) 3 w' w.heap.size (fun _ => True) v6 x6_2) ∧ Aside0 (Below w.heap.size w w'))
    case atStart => exact ⟨(y414), (0), rB, H', ⟨Nat.le_refl _⟩, ⟨upR HO_6.out⟩, (aB HB)⟩
    case round =>
     clear H'
     obtain ⟨x6_2, x7_2, rfl, HA, HK2, HO_6, HB⟩ := hrel
     cases gk with
     | zero => exact absurd HA.out (by simp [spec_OverdueTrips.l0])
     | succ k2 =>
      have H := HA.out
      clear HA
      simp only [spec_OverdueTrips.l0] at H
      replace H := ifD H
      rcases H with ⟨H, -, c12b0⟩ | ⟨H, -, c12b0⟩
      ·by_cases c13 : 0 ≤ x7_2
       ·rw [if_pos c13] at H
        have c13b0 : decide (0 ≤ x7_2) = true := decide_eq_true c13
        clear c13
        replace H := ifI H
        rcases H with ⟨H, -, c14b0, c14b1⟩ | ⟨H, c14, c14b0, c14b1⟩
        ·by_cases c15 : x6_2.length < 17592186044416
         ·rw [if_pos c15] at H
          have LMc15 := Aside0.mk c15
          clear c15
          obtain ⟨y421, hy421⟩ : ∃ y_ : List Int, y_ = (x6_2 ++ [x7_2]) := ⟨_, rfl⟩
          replace H : (spec_OverdueTrips.l0 k2 l0 a1 y421 (wrap64 (x7_2 + 1))) = some (r1, r2) := by first | (rw [hy421]; with_reducible exact H) | (have H2_ := (Option.bind_some _ _).symm.trans H; rw [hy421]; with_reducible exact H2_) | (have H2_ := (Option.bind_some _ _).symm.trans H; with_reducible exact H2_) | with_reducible exact H | (rw [hy421]; exact H) | exact H
          have Ny421 := Aside0.mk hy421
          clear hy421
          have H' := Aside0.mk H
          clear H
          have p419 : 0 ≤ (x7_2 : Int) := of_decide_eq_true asmB
          have q419 : x7_2 < (l0.length : Int) := of_decide_eq_true asmB
          obtain ⟨ad419, e419, hx419_0, hx419_1, hx419_2, hx419_3, hx419_4⟩ := at_T25 HR0.out x7_2 p419 q419
          cases e419
          replace hx419_0 := bx HB.out hx419_0
          replace hx419_1 := bx HB.out hx419_1
          replace hx419_2 := bx HB.out hx419_2
          replace hx419_3 := bx HB.out hx419_3
          replace hx419_4 := bx HB.out hx419_4
          replace p419 := eq_true p419
          replace q419 := eq_true q419
          go_wp2_with (first | ((with_reducible refine gD 8 ?_); refine bxE 8 25 #[.int .i64 0, .int .i64 0, .int .i64 0, .int .i64 0, .int .i64 0] fun gb420 w16 hg hbox hb => ?_; have BK420 := Aside0.mk hbox; have GE420 := gB HB hg; replace HO_6 := uR HO_6 hb; replace HB := uB HB hb; clear hb hbox hg; have ⟨hcz17_0, hcz17_1, hcz17_2, hcz17_3, hcz17_4, hfz17_0⟩ := cz5 BK420) | ((with_reducible refine gate_builtin (b := .append) (xs := #[.tmp 48, .tmp 50]) rfl ?_); at_builtin; refine Kd.R_append (Kd.int .i64) (w0 := w) w.heap.size rfl (.tmp 48) (.tmp 50) 35 3 (.int .i64 0) 8 rfl Tryz.underlying35 info3 rfl (by decide) (by omega) u6 x6_2 x7_2 [.int .i64 x7_2] (fun _ => True) (fun _ => False) rfl (by first | (go_simp; done) | (go_simp; rfl)) ?aP (fun _ hk => hk.elim) ?aF ?aO ?aB ?aS ?aL ?_; (case aP => exact rfl); (case aB => exact (bW HB)); (case aF => exact (fun _ _ => trivial)); (case aO => exact (by (with_reducible repeat (first | apply Kd.R_alloc | apply Kd.R_drewN | apply Kd.R_drew)); exact Kd.R_mono (Kd.R_far (p := ⟨gb420, 4, none⟩) (Kd.R_far (p := ⟨gb420, 3, none⟩) (Kd.R_far (p := ⟨gb420, 2, none⟩) (Kd.R_far (p := ⟨gb420, 1, none⟩) (Kd.R_far (p := ⟨gb420, 0, none⟩) (Kd.R_types HO_6.out BK420.out (by decide)) (fun _ hk => hk.2) (.int .i64 ((rd_T25 l0 x7_2).f0))) (fun _ hk => hk.2) (.int .i64 ((rd_T25 l0 x7_2).f1))) (fun _ hk => hk.2) (.int .i64 ((rd_T25 l0 x7_2).f2))) (fun _ hk => hk.2) (.int .i64 ((rd_T25 l0 x7_2).f3))) (fun _ hk => hk.2) (.int .i64 ((rd_T25 l0 x7_2).f4))) (fun _ hk => trivial))); (case aS => exact (below_size (bW HB))); (case aL => have := LMc15.out; omega); intro v422 w18 ho hb hg hat; rw [← Ny421.out] at ho; have HO423 := Aside0.mk (ho); replace BK420 := Aside0.mk (blk_grown (g := gb420) (o := .cells #[.int .i64 ((rd_T25 l0 x7_2).f0), .int .i64 ((rd_T25 l0 x7_2).f1), .int .i64 ((rd_T25 l0 x7_2).f2), .int .i64 ((rd_T25 l0 x7_2).f3), .int .i64 ((rd_T25 l0 x7_2).f4)] 25 (0, 0)) (by exact pW BK420) hg (Kd.R_ne HO_6.out BK420.out (by decide))); replace HB := Aside0.mk (hb); clear HO_6; clear ho hb hg hat))
          go_roundg k2
          case measure => have := HJ2.out; have := HK2.out; omega
          case rel => exact ⟨(y421), (wrap64 (x7_2 + 1)), rB, H', ⟨by have := HJ2.out; have := HK2.out; omega⟩, ⟨upR HO423.out⟩, (aB HB)⟩
         ·rw [if_neg c15] at H
          exact absurd H (by simp)
        ·replace H := ifI H
         rcases H with ⟨H, -, c19b0, c19b1⟩ | ⟨H, c19, c19b0, c19b1⟩
         ·by_cases c20 : x6_2.length < 17592186044416
          ·rw [if_pos c20] at H
           have LMc20 := Aside0.mk c20
           clear c20
           obtain ⟨y424, hy424⟩ : ∃ y_ : List Int, y_ = (x6_2 ++ [x7_2]) := ⟨_, rfl⟩
           replace H : (spec_OverdueTrips.l0 k2 l0 a1 y424 (wrap64 (x7_2 + 1))) = some (r1, r2) := by first | (rw [hy424]; with_reducible exact H) | (have H2_ := (Option.bind_some _ _).symm.trans H; rw [hy424]; with_reducible exact H2_) | (have H2_ := (Option.bind_some _ _).symm.trans H; with_reducible exact H2_) | with_reducible exact H | (rw [hy424]; exact H) | exact H
           have Ny424 := Aside0.mk hy424
           clear hy424
           have H' := Aside0.mk H
           clear H
           have p419 : 0 ≤ (x7_2 : Int) := of_decide_eq_true asmB
           have q419 : x7_2 < (l0.length : Int) := of_decide_eq_true asmB
           obtain ⟨ad419, e419, hx419_0, hx419_1, hx419_2, hx419_3, hx419_4⟩ := at_T25 HR0.out x7_2 p419 q419
           cases e419
           replace hx419_0 := bx HB.out hx419_0
           replace hx419_1 := bx HB.out hx419_1
           replace hx419_2 := bx HB.out hx419_2
           replace hx419_3 := bx HB.out hx419_3
           replace hx419_4 := bx HB.out hx419_4
           replace p419 := eq_true p419
           replace q419 := eq_true q419
           go_wp2_with (first | ((with_reducible refine gD 8 ?_); refine bxE 8 25 #[.int .i64 0, .int .i64 0, .int .i64 0, .int .i64 0, .int .i64 0] fun gb420 w21 hg hbox hb => ?_; have BK420 := Aside0.mk hbox; have GE420 := gB HB hg; replace HO_6 := uR HO_6 hb; replace HB := uB HB hb; clear hb hbox hg; have ⟨hcz22_0, hcz22_1, hcz22_2, hcz22_3, hcz22_4, hfz22_0⟩ := cz5 BK420) | ((with_reducible refine gate_builtin (b := .append) (xs := #[.tmp 48, .tmp 50]) rfl ?_); at_builtin; refine Kd.R_append (Kd.int .i64) (w0 := w) w.heap.size rfl (.tmp 48) (.tmp 50) 35 3 (.int .i64 0) 8 rfl Tryz.underlying35 info3 rfl (by decide) (by omega) u6 x6_2 x7_2 [.int .i64 x7_2] (fun _ => True) (fun _ => False) rfl (by first | (go_simp; done) | (go_simp; rfl)) ?aP (fun _ hk => hk.elim) ?aF ?aO ?aB ?aS ?aL ?_; (case aP => exact rfl); (case aB => exact (bW HB)); (case aF => exact (fun _ _ => trivial)); (case aO => exact (by (with_reducible repeat (first | apply Kd.R_alloc | apply Kd.R_drewN | apply Kd.R_drew)); exact Kd.R_mono (Kd.R_far (p := ⟨gb420, 4, none⟩) (Kd.R_far (p := ⟨gb420, 3, none⟩) (Kd.R_far (p := ⟨gb420, 2, none⟩) (Kd.R_far (p := ⟨gb420, 1, none⟩) (Kd.R_far (p := ⟨gb420, 0, none⟩) (Kd.R_types HO_6.out BK420.out (by decide)) (fun _ hk => hk.2) (.int .i64 ((rd_T25 l0 x7_2).f0))) (fun _ hk => hk.2) (.int .i64 ((rd_T25 l0 x7_2).f1))) (fun _ hk => hk.2) (.int .i64 ((rd_T25 l0 x7_2).f2))) (fun _ hk => hk.2) (.int .i64 ((rd_T25 l0 x7_2).f3))) (fun _ hk => hk.2) (.int .i64 ((rd_T25 l0 x7_2).f4))) (fun _ hk => trivial))); (case aS => exact (below_size (bW HB))); (case aL => have := LMc20.out; omega); intro v425 w23 ho hb hg hat; rw [← Ny424.out] at ho; have HO426 := Aside0.mk (ho); replace BK420 := Aside0.mk (blk_grown (g := gb420) (o := .cells #[.int .i64 ((rd_T25 l0 x7_2).f0), .int .i64 ((rd_T25 l0 x7_2).f1), .int .i64 ((rd_T25 l0 x7_2).f2), .int .i64 ((rd_T25 l0 x7_2).f3), .int .i64 ((rd_T25 l0 x7_2).f4)] 25 (0, 0)) (by exact pW BK420) hg (Kd.R_ne HO_6.out BK420.out (by decide))); replace HB := Aside0.mk (hb); clear HO_6; clear ho hb hg hat))
           go_roundg k2
           case measure => have := HJ2.out; have := HK2.out; omega
           case rel => exact ⟨(y424), (wrap64 (x7_2 + 1)), rB, H', ⟨by have := HJ2.out; have := HK2.out; omega⟩, ⟨upR HO426.out⟩, (aB HB)⟩
          ·rw [if_neg c20] at H
           exact absurd H (by simp)
         ·replace H := ifI H
          rcases H with ⟨H, -, c24b0, c24b1⟩ | ⟨H, c24, c24b0, c24b1⟩
          ·replace H := ifD H
           rcases H with ⟨H, -, c25b0⟩ | ⟨H, -, c25b0⟩
           ·by_cases c26 : x6_2.length < 17592186044416
            ·rw [if_pos c26] at H
             have LMc26 := Aside0.mk c26
             clear c26
             obtain ⟨y427, hy427⟩ : ∃ y_ : List Int, y_ = (x6_2 ++ [x7_2]) := ⟨_, rfl⟩
             replace H : (spec_OverdueTrips.l0 k2 l0 a1 y427 (wrap64 (x7_2 + 1))) = some (r1, r2) := by first | (rw [hy427]; with_reducible exact H) | (have H2_ := (Option.bind_some _ _).symm.trans H; rw [hy427]; with_reducible exact H2_) | (have H2_ := (Option.bind_some _ _).symm.trans H; with_reducible exact H2_) | with_reducible exact H | (rw [hy427]; exact H) | exact H
             have Ny427 := Aside0.mk hy427
             clear hy427
             have H' := Aside0.mk H
             clear H
             have p419 : 0 ≤ (x7_2 : Int) := of_decide_eq_true asmB
             have q419 : x7_2 < (l0.length : Int) := of_decide_eq_true asmB
             obtain ⟨ad419, e419, hx419_0, hx419_1, hx419_2, hx419_3, hx419_4⟩ := at_T25 HR0.out x7_2 p419 q419
             cases e419
             replace hx419_0 := bx HB.out hx419_0
             replace hx419_1 := bx HB.out hx419_1
             replace hx419_2 := bx HB.out hx419_2
             replace hx419_3 := bx HB.out hx419_3
             replace hx419_4 := bx HB.out hx419_4
             replace p419 := eq_true p419
             replace q419 := eq_true q419
             go_wp2_with (first | ((with_reducible refine gD 8 ?_); refine bxE 8 25 #[.int .i64 0, .int .i64 0, .int .i64 0, .int .i64 0, .int .i64 0] fun gb420 w27 hg hbox hb => ?_; have BK420 := Aside0.mk hbox; have GE420 := gB HB hg; replace HO_6 := uR HO_6 hb; replace HB := uB HB hb; clear hb hbox hg; have ⟨hcz28_0, hcz28_1, hcz28_2, hcz28_3, hcz28_4, hfz28_0⟩ := cz5 BK420) | ((with_reducible refine gate_builtin (b := .append) (xs := #[.tmp 48, .tmp 50]) rfl ?_); at_builtin; refine Kd.R_append (Kd.int .i64) (w0 := w) w.heap.size rfl (.tmp 48) (.tmp 50) 35 3 (.int .i64 0) 8 rfl Tryz.underlying35 info3 rfl (by decide) (by omega) u6 x6_2 x7_2 [.int .i64 x7_2] (fun _ => True) (fun _ => False) rfl (by first | (go_simp; done) | (go_simp; rfl)) ?aP (fun _ hk => hk.elim) ?aF ?aO ?aB ?aS ?aL ?_; (case aP => exact rfl); (case aB => exact (bW HB)); (case aF => exact (fun _ _ => trivial)); (case aO => exact (by (with_reducible repeat (first | apply Kd.R_alloc | apply Kd.R_drewN | apply Kd.R_drew)); exact Kd.R_mono (Kd.R_far (p := ⟨gb420, 4, none⟩) (Kd.R_far (p := ⟨gb420, 3, none⟩) (Kd.R_far (p := ⟨gb420, 2, none⟩) (Kd.R_far (p := ⟨gb420, 1, none⟩) (Kd.R_far (p := ⟨gb420, 0, none⟩) (Kd.R_types HO_6.out BK420.out (by decide)) (fun _ hk => hk.2) (.int .i64 ((rd_T25 l0 x7_2).f0))) (fun _ hk => hk.2) (.int .i64 ((rd_T25 l0 x7_2).f1))) (fun _ hk => hk.2) (.int .i64 ((rd_T25 l0 x7_2).f2))) (fun _ hk => hk.2) (.int .i64 ((rd_T25 l0 x7_2).f3))) (fun _ hk => hk.2) (.int .i64 ((rd_T25 l0 x7_2).f4))) (fun _ hk => trivial))); (case aS => exact (below_size (bW HB))); (case aL => have := LMc26.out; omega); intro v428 w29 ho hb hg hat; rw [← Ny427.out] at ho; have HO429 := Aside0.mk (ho); replace BK420 := Aside0.mk (blk_grown (g := gb420) (o := .cells #[.int .i64 ((rd_T25 l0 x7_2).f0), .int .i64 ((rd_T25 l0 x7_2).f1), .int .i64 ((rd_T25 l0 x7_2).f2), .int .i64 ((rd_T25 l0 x7_2).f3), .int .i64 ((rd_T25 l0 x7_2).f4)] 25 (0, 0)) (by exact pW BK420) hg (Kd.R_ne HO_6.out BK420.out (by decide))); replace HB := Aside0.mk (hb); clear HO_6; clear ho hb hg hat))
             go_roundg k2
             case measure => have := HJ2.out; have := HK2.out; omega
             case rel => exact ⟨(y427), (wrap64 (x7_2 + 1)), rB, H', ⟨by have := HJ2.out; have := HK2.out; omega⟩, ⟨upR HO429.out⟩, (aB HB)⟩
            ·rw [if_neg c26] at H
             exact absurd H (by simp)
           ·have H' := Aside0.mk H
            clear H
            have p419 : 0 ≤ (x7_2 : Int) := of_decide_eq_true asmB
            have q419 : x7_2 < (l0.length : Int) := of_decide_eq_true asmB
            obtain ⟨ad419, e419, hx419_0, hx419_1, hx419_2, hx419_3, hx419_4⟩ := at_T25 HR0.out x7_2 p419 q419
            cases e419
            replace hx419_0 := bx HB.out hx419_0
            replace hx419_1 := bx HB.out hx419_1
            replace hx419_2 := bx HB.out hx419_2
            replace hx419_3 := bx HB.out hx419_3
            replace hx419_4 := bx HB.out hx419_4
            replace p419 := eq_true p419
            replace q419 := eq_true q419
            go_wp2_with (first | ((with_reducible refine gD 8 ?_); refine bxE 8 25 #[.int .i64 0, .int .i64 0, .int .i64 0, .int .i64 0, .int .i64 0] fun gb420 w30 hg hbox hb => ?_; have BK420 := Aside0.mk hbox; have GE420 := gB HB hg; replace HO_6 := uR HO_6 hb; replace HB := uB HB hb; clear hb hbox hg; have ⟨hcz31_0, hcz31_1, hcz31_2, hcz31_3, hcz31_4, hfz31_0⟩ := cz5 BK420))
            go_roundg k2
            case measure => have := HJ2.out; have := HK2.out; omega
            case rel => exact ⟨(x6_2), (wrap64 (x7_2 + 1)), rB, H', ⟨by have := HJ2.out; have := HK2.out; omega⟩, ⟨by (with_reducible repeat (first | apply Kd.R_alloc | apply Kd.R_drewN | apply Kd.R_drew)); exact Kd.R_mono (Kd.R_far (p := ⟨gb420, 4, none⟩) (Kd.R_far (p := ⟨gb420, 3, none⟩) (Kd.R_far (p := ⟨gb420, 2, none⟩) (Kd.R_far (p := ⟨gb420, 1, none⟩) (Kd.R_far (p := ⟨gb420, 0, none⟩) (Kd.R_types HO_6.out BK420.out (by decide)) (fun _ hk => hk.2) (.int .i64 ((rd_T25 l0 x7_2).f0))) (fun _ hk => hk.2) (.int .i64 ((rd_T25 l0 x7_2).f1))) (fun _ hk => hk.2) (.int .i64 ((rd_T25 l0 x7_2).f2))) (fun _ hk => hk.2) (.int .i64 ((rd_T25 l0 x7_2).f3))) (fun _ hk => hk.2) (.int .i64 ((rd_T25 l0 x7_2).f4))) (fun _ hk => trivial)⟩, (aB HB)⟩
          ·have H' := Aside0.mk H
           clear H
           have p419 : 0 ≤ (x7_2 : Int) := of_decide_eq_true asmB
           have q419 : x7_2 < (l0.length : Int) := of_decide_eq_true asmB
           obtain ⟨ad419, e419, hx419_0, hx419_1, hx419_2, hx419_3, hx419_4⟩ := at_T25 HR0.out x7_2 p419 q419
           cases e419
           replace hx419_0 := bx HB.out hx419_0
           replace hx419_1 := bx HB.out hx419_1
           replace hx419_2 := bx HB.out hx419_2
           replace hx419_3 := bx HB.out hx419_3
           replace hx419_4 := bx HB.out hx419_4
           replace p419 := eq_true p419
           replace q419 := eq_true q419
           go_wp2_with (first | ((with_reducible refine gD 8 ?_); refine bxE 8 25 #[.int .i64 0, .int .i64 0, .int .i64 0, .int .i64 0, .int .i64 0] fun gb420 w32 hg hbox hb => ?_; have BK420 := Aside0.mk hbox; have GE420 := gB HB hg; replace HO_6 := uR HO_6 hb; replace HB := uB HB hb; clear hb hbox hg; have ⟨hcz33_0, hcz33_1, hcz33_2, hcz33_3, hcz33_4, hfz33_0⟩ := cz5 BK420))
           go_roundg k2
           case measure => have := HJ2.out; have := HK2.out; omega
           case rel => exact ⟨(x6_2), (wrap64 (x7_2 + 1)), rB, H', ⟨by have := HJ2.out; have := HK2.out; omega⟩, ⟨by (with_reducible repeat (first | apply Kd.R_alloc | apply Kd.R_drewN | apply Kd.R_drew)); exact Kd.R_mono (Kd.R_far (p := ⟨gb420, 4, none⟩) (Kd.R_far (p := ⟨gb420, 3, none⟩) (Kd.R_far (p := ⟨gb420, 2, none⟩) (Kd.R_far (p := ⟨gb420, 1, none⟩) (Kd.R_far (p := ⟨gb420, 0, none⟩) (Kd.R_types HO_6.out BK420.out (by decide)) (fun _ hk => hk.2) (.int .i64 ((rd_T25 l0 x7_2).f0))) (fun _ hk => hk.2) (.int .i64 ((rd_T25 l0 x7_2).f1))) (fun _ hk => hk.2) (.int .i64 ((rd_T25 l0 x7_2).f2))) (fun _ hk => hk.2) (.int .i64 ((rd_T25 l0 x7_2).f3))) (fun _ hk => hk.2) (.int .i64 ((rd_T25 l0 x7_2).f4))) (fun _ hk => trivial)⟩, (aB HB)⟩
       ·rw [if_neg c13] at H
        exact absurd H (by simp)
      ·simp only [Option.some.injEq, Prod.mk.injEq] at H
       obtain ⟨rfl, rfl⟩ := H
       go_wp2
       go_ret2
       exact ⟨_, eB, upR HO_6.out, (bW HB)⟩

end Go.Proofs.YtmeaacbnjpgepaaGreatDoor.QFnTripLists
