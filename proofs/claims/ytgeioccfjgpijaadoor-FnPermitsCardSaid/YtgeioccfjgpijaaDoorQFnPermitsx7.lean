/- Contracts of Go functions that FnPermits reaches: the call computes what the plain function says. No condition. -/
import Derived.Test.YtgeioccfjgpijaaDoorQFnPermitsx0
import Derived.Test.YtgeioccfjgpijaaDoorQFnPermitsx4
import Derived.Test.YtgeioccfjgpijaaDoorQFnPermitsx5
import Derived.Test.YtgeioccfjgpijaaDoorQFnPermitsx6
namespace Go.Proofs.YtgeioccfjgpijaaDoor.QFnPermits
open Go.RowKit Go.Proofs.YtgeioccfjgpijaaDoorW.PrintWords Go.Proofs.YtgeioccfjgpijaaDoorW.PrintLast Go.Proofs.YtgeioccfjgpijaaDoorW.PrintMore
attribute [local go_sem] max2_int min2_int max_two min_two max_three min_three max_four min_four   -- for this text's walks alone
set_option linter.unusedVariables false
set_option linter.unusedSimpArgs false

/-! ### impl_LapsePermits: function 32 -/
mutual
def impl_LapsePermits.j0 : Nat → List (S26) → Int → Bool → Option ((List (S26)) × Int × Bool)
 | 0, _, _, _ => none
 | k + 1, x0, x1, x18 => if x18 = true then (some (([] : List (S26)), 0, false)) else ((impl_Permit_68.f x0).bind fun t202 => (impl_LapsePermits.l0 k x1 t202 0 (t202.length : Int) 0))
def impl_LapsePermits.l0 : Nat → Int → List (S26) → Int → Int → Int → Option ((List (S26)) × Int × Bool)
 | 0, _, _, _, _, _ => none
 | k + 1, x1, x7, x8, x22, x23 => if x23 < x22 then (if 0 ≤ x23 then (if x23 < (x7.length : Int) then ((impl_Permit_counts.f ((rd_T26 x7 x23).f0) ((rd_T26 x7 x23).f1) ((rd_T26 x7 x23).f2) ((rd_T26 x7 x23).f3) ((rd_T26 x7 x23).f4) ((rd_T26 x7 x23).f5)).bind fun t207 => (if t207 = true then (if ((rd_T26 x7 x23).f3) < x1 then (impl_LapsePermits.l0 k x1 (x7.set (x23 : Int).toNat (⟨(rd_T26 x7 x23).f0, (rd_T26 x7 x23).f1, (rd_T26 x7 x23).f2, (rd_T26 x7 x23).f3, (rd_T26 x7 x23).f4, 4⟩ : S26)) (wrap64 (x8 + 1)) x22 (wrap64 (x23 + 1))) else (impl_LapsePermits.l0 k x1 x7 x8 x22 (wrap64 (x23 + 1)))) else (impl_LapsePermits.l0 k x1 x7 x8 x22 (wrap64 (x23 + 1))))) else (none)) else (none)) else (some (x7, x8, true))
end
def impl_LapsePermits.f (k : Nat) (l0 : List (S26)) (a1 : Int) : Option ((List (S26)) × Int × Bool) := (impl_ArePermits.f k l0).bind fun t200 => (if t200 = true then ((impl_isDay.f a1).bind fun t201 => (impl_LapsePermits.j0 k l0 a1 (!t201))) else (impl_LapsePermits.j0 k l0 a1 true))
theorem impl_LapsePermits.mono_l : ∀ k, (∀ y0 y1 y2, LeO (impl_LapsePermits.j0 k y0 y1 y2) (impl_LapsePermits.j0 (k + 1) y0 y1 y2)) ∧ (∀ y0 y1 y2 y3 y4, LeO (impl_LapsePermits.l0 k y0 y1 y2 y3 y4) (impl_LapsePermits.l0 (k + 1) y0 y1 y2 y3 y4))
 | 0 => ⟨fun _ _ _ r h => by simp [impl_LapsePermits.j0] at h, fun _ _ _ _ _ r h => by simp [impl_LapsePermits.l0] at h⟩
 | k + 1 => by
  obtain ⟨ih0, ih1⟩ := impl_LapsePermits.mono_l k
  refine ⟨?_, ?_⟩
  ·intro y0 y1 y2
   unfold impl_LapsePermits.j0
   repeat' with_reducible first | apply ih0 | apply ih1 | apply impl_ArePermits.mono | exact LeO.refl _ | exact LeO.none _ | refine LeO.ite ?_ ?_ | refine LeO.bind ?_ (fun _ => ?_)
  ·intro y0 y1 y2 y3 y4
   unfold impl_LapsePermits.l0
   repeat' with_reducible first | apply ih0 | apply ih1 | apply impl_ArePermits.mono | exact LeO.refl _ | exact LeO.none _ | refine LeO.ite ?_ ?_ | refine LeO.bind ?_ (fun _ => ?_)
theorem impl_LapsePermits.mono : ∀ a0 a1 k, LeO (impl_LapsePermits.f k a0 a1) (impl_LapsePermits.f (k + 1) a0 a1) := by
 intro a0 a1 k
 obtain ⟨ih0, ih1⟩ := impl_LapsePermits.mono_l k
 unfold impl_LapsePermits.f
 repeat' with_reducible first | apply ih0 | apply ih1 | apply impl_ArePermits.mono | exact LeO.refl _ | exact LeO.none _ | refine LeO.ite ?_ ?_ | refine LeO.bind ?_ (fun _ => ?_)
set_option maxHeartbeats 8000000 in
set_option maxRecDepth 100000 in
theorem impl_LapsePermits.calls (k : Nat) (A0 : Option Addr) (c0 : Nat) (l0 : List (S26)) (a1 : Int) (r1 : List (S26)) (r2 : Int) (r3 : Bool) (w : World) (hr0 : Kd.C k26 w A0 l0.length l0) (hc0 : l0.length ≤ c0) (h : impl_LapsePermits.f k l0 a1 = some (r1, r2, r3)) :
  Calls Tryd.prog 32 #[.slice A0 l0.length c0, .int .i64 a1] w fun e w' => ∃ v0_ : Value, e = .returned (.tuple #[v0_, .int .i64 r2, .bool r3]) ∧ Kd.R k26 26 w' w.heap.size (fun _ => True) v0_ r1 ∧ Below w.heap.size w w' := by
 have hu26 := Tryd.underlying26
 have HR0 := Aside0.mk hr0
 have HC0 := Aside0.mk hc0
 clear hr0 hc0
 have HB := Aside0.mk (Below.refl w.heap.size w)
 have H := h
 clear h
 unfold impl_LapsePermits.f at H
 have HC3 := Aside0.mk H
 clear H
 go_enter Tryd.func32, Tryd.ntmps32
 go_upto_region 1 with (fail)
 go_cut [18] (fun v18 wc => ∃ (kq : Nat) (x18_2 : Bool), v18 = .bool x18_2 ∧ Aside0 (impl_LapsePermits.j0 kq l0 a1 x18_2 = some (r1, r2, r3)) ∧ Aside0 (kq ≤ k) ∧ Aside0 (Below w.heap.size w wc))
 case first =>
  have H := HC3.out
  clear HC3
  replace H := bA H
  obtain ⟨t200, A4, H⟩ := H
  rcases Bool.eq_false_or_eq_true t200 with rfl | rfl
  ·replace H := iT rfl H
   replace H := bA H
   obtain ⟨t201, A6, H⟩ := H
   have H' := Aside0.mk H
   clear H
   go_wp2_with (first | ((with_reducible refine gC 21 ?_); refine lA (some 12) Tryd.func21 (impl_ArePermits.calls k _ _ l0 true _ ?side1 ?side2 A4.out) ?_; (case side1 => repeat (first | exact (Kd.C_below HR0.out HB.out) | (with_reducible refine Kd.C_alloc ?_ _) | (with_reducible refine Kd.C_drewN ?_ _) | (with_reducible refine Kd.C_drew ?_))); (case side2 => exact HC0.out); intro w7 hb; replace HB := uB HB hb; (try clear hb); (try clear hk)) | (go_at_call 56; (with_reducible refine (impl_isDay.calls a1 t201 _ A6.out).mono ?_); rintro e w' ⟨rfl, ⟨nd, rfl⟩⟩))
   go_meet
   case rel => exact ⟨_, (!t201), rB, H', leB, (aB HB)⟩
  ·replace H := iF (by decide) H
   have H' := Aside0.mk H
   clear H
   go_wp2_with (first | ((with_reducible refine gC 21 ?_); refine lA (some 12) Tryd.func21 (impl_ArePermits.calls k _ _ l0 false _ ?side1 ?side2 A4.out) ?_; (case side1 => repeat (first | exact (Kd.C_below HR0.out HB.out) | (with_reducible refine Kd.C_alloc ?_ _) | (with_reducible refine Kd.C_drewN ?_ _) | (with_reducible refine Kd.C_drew ?_))); (case side2 => exact HC0.out); intro w8 hb; replace HB := uB HB hb; (try clear hb); (try clear hk)))
   go_meet
   case rel => exact ⟨_, (true), rB, H', leB, (aB HB)⟩
 case rest =>
  clear HC3
  obtain ⟨kq, x18_2, rfl, HA, HJ2, HB⟩ := hcut
  cases kq with
  | zero => exact absurd HA.out (by simp [impl_LapsePermits.j0])
  | succ kj2 =>
   have H := HA.out
   clear HA
   simp only [impl_LapsePermits.j0] at H
   rcases Bool.eq_false_or_eq_true x18_2 with rfl | rfl
   ·replace H := iT rfl H
    simp only [Option.some.injEq, Prod.mk.injEq] at H
    obtain ⟨rfl, rfl, rfl⟩ := H
    go_wp2
    go_ret3
    exact ⟨_, eB, by first | exact Kd.R_nil _ _ _ _ _ | exact Kd.N_nil _ _ _ _ _ | exact Kd.V_nil _ _ _ _ _ | exact Kd.Q_nil _ _ _ _ _ | exact Kd.S_nil _ _ _ _ _, (bW HB)⟩
   ·replace H := iF (by decide) H
    replace H := bA H
    obtain ⟨t202, A10, H⟩ := H
    have H' := Aside0.mk H
    clear H
    go_wp2_with (first | ((with_reducible refine gate_callee (f := 68) rfl ?_); refine goesL_ (some 20) rfl rfl Tryd.func68 (by kernel_rfl) rfl #[.slice A0 l0.length c0] rfl argsB ?_; (with_reducible refine (impl_Permit_68.calls _ _ l0 t202 _ ?side1 ?side2 A10.out).mono ?_); (case side1 => repeat (first | exact (Kd.C_below HR0.out HB.out) | (with_reducible refine Kd.C_alloc ?_ _) | (with_reducible refine Kd.C_drewN ?_ _) | (with_reducible refine Kd.C_drew ?_))); (case side2 => exact HC0.out); rintro e w11 ⟨v203, rfl, ho0, hb⟩; refine ⟨_, rfl, ?_⟩; have HO204 := Aside0.mk (Kd.R_lower ho0 (below_size (bW HB))); replace HB := uB HB hb; (try clear hb); (try clear hk); (try clear ho0); obtain ⟨Ao12, co12, eo12⟩ := Kd.R_slice HO204.out; subst eo12))
    (try simp only [Act.put, List.setIfInBounds_toArray, List.set_cons_zero, List.set_cons_succ])
    go_loopg [8, 23] kj2 (fun kq v8 v23 w' => ∃ (x7_2 : List (S26)) (x8_2 x23_2 : Int), v8 = .int .i64 x8_2 ∧ v23 = .int .i64 x23_2 ∧ Aside0 (impl_LapsePermits.l0 kq a1 x7_2 x8_2 (t202.length : Int) x23_2 = some (r1, r2, r3)) ∧ Aside0 (kq ≤ kj2) ∧ Aside0 (Kd.R k26 26 w' w.heap.size (fun _ => True) (.slice Ao12 t202.length co12) x7_2) ∧ Aside0 (Below w.heap.size w w'))
    case atStart => exact ⟨(t202), (0), (0), rB, rB, H', ⟨Nat.le_refl _⟩, ⟨upR HO204.out⟩, (aB HB)⟩
    case round =>
     clear H'
     obtain ⟨x7_2, x8_2, x23_2, rfl, rfl, HA, HK2, HO_7, HB⟩ := hrel
     have hl7_2 := (Kd.R_reads' HO_7.out).1
     rw [hl7_2] at HO_7
     (try simp only [hl7_2])
     cases gk with
     | zero => exact absurd HA.out (by simp [impl_LapsePermits.l0])
     | succ k2 =>
      have H := HA.out
      clear HA
      simp only [impl_LapsePermits.l0] at H
      replace H := ifD H
      rcases H with ⟨H, -, c13b0⟩ | ⟨H, -, c13b0⟩
      ·by_cases c14 : 0 ≤ x23_2
       ·rw [if_pos c14] at H
        have c14b0 : decide (0 ≤ x23_2) = true := decide_eq_true c14
        clear c14
        by_cases c15 : x23_2 < (x7_2.length : Int)
        ·rw [if_pos c15] at H
         have c15b0 : decide (x23_2 < (x7_2.length : Int)) = true := decide_eq_true c15
         clear c15
         replace H := bA H
         obtain ⟨t207, A16, H⟩ := H
         rcases Bool.eq_false_or_eq_true t207 with rfl | rfl
         ·replace H := iT rfl H
          replace H := ifD H
          rcases H with ⟨H, -, c18b0⟩ | ⟨H, -, c18b0⟩
          ·obtain ⟨y208, hy208⟩ : ∃ y_ : List (S26), y_ = (x7_2.set (x23_2 : Int).toNat (⟨(rd_T26 x7_2 x23_2).f0, (rd_T26 x7_2 x23_2).f1, (rd_T26 x7_2 x23_2).f2, (rd_T26 x7_2 x23_2).f3, (rd_T26 x7_2 x23_2).f4, 4⟩ : S26)) := ⟨_, rfl⟩
           replace H : (impl_LapsePermits.l0 k2 a1 y208 (wrap64 (x8_2 + 1)) (t202.length : Int) (wrap64 (x23_2 + 1))) = some (r1, r2, r3) := by first | (rw [hy208]; with_reducible exact H) | (have H2_ := (Option.bind_some _ _).symm.trans H; rw [hy208]; with_reducible exact H2_) | (have H2_ := (Option.bind_some _ _).symm.trans H; with_reducible exact H2_) | with_reducible exact H | (rw [hy208]; exact H) | exact H
           have Ny208 := Aside0.mk hy208
           clear hy208
           have H' := Aside0.mk H
           clear H
           have p205 : 0 ≤ (x23_2 : Int) := of_decide_eq_true asmB
           have q205 : x23_2 < (x7_2.length : Int) := of_decide_eq_true asmB
           obtain ⟨ad205, e205, hx205_0, hx205_1, hx205_2, hx205_3, hx205_4, hx205_5⟩ := at_T26 (Kd.R_reads' HO_7.out).2.2 x23_2 p205 q205
           cases e205
           replace p205 := eq_true p205
           replace q205 := eq_true q205
           go_wp2_with (first | ((with_reducible refine gD 10 ?_); refine bxE 10 26 #[.int .i64 0, .string (⟨#[]⟩ : ByteArray), .int .i64 0, .int .i64 0, .int .i64 0, .int .i64 0] fun gb206 w20 hg hbox hb => ?_; have BK206 := Aside0.mk hbox; have GE206 := gB HB hg; replace HO_7 := Aside0.mk (Kd.R_below (Kd.R_elderB (upR HO_7.out) gb206 (Nat.le_of_eq hg.symm)) hb); replace HB := uB HB hb; clear hb hbox hg; have hcz21_0 := ci BK206.out 0 0 rfl; have hcz21_1 : w20.cell? ⟨gb206, 1, none⟩ = some (.string (⟨#[]⟩ : ByteArray)) := cb BK206 1; have hcz21_2 := ci BK206.out 2 0 rfl; have hcz21_3 := ci BK206.out 3 0 rfl; have hcz21_4 := ci BK206.out 4 0 rfl; have hcz21_5 := ci BK206.out 5 0 rfl; have hfz21_0 := fun j_ : Nat => blk_frozen BK206.out j_) | ((with_reducible refine gC 72 ?_); refine lA (some 29) Tryd.func72 (impl_Permit_counts.calls ((rd_T26 x7_2 x23_2).f0) ((rd_T26 x7_2 x23_2).f1) ((rd_T26 x7_2 x23_2).f2) ((rd_T26 x7_2 x23_2).f3) ((rd_T26 x7_2 x23_2).f4) ((rd_T26 x7_2 x23_2).f5) true _ A16.out) ?_; intro w22 hb; replace HO_7 := Aside0.mk (Kd.R_below (by (with_reducible repeat (first | apply Kd.R_alloc | apply Kd.R_drewN | apply Kd.R_drew)); exact (Kd.R_mono (Kd.R_far (p := ⟨gb206, 5, none⟩) (Kd.R_far (p := ⟨gb206, 4, none⟩) (Kd.R_far (p := ⟨gb206, 3, none⟩) (Kd.R_far (p := ⟨gb206, 2, none⟩) (Kd.R_far (p := ⟨gb206, 1, none⟩) (Kd.R_far (p := ⟨gb206, 0, none⟩) (Kd.R_mono HO_7.out (fun k_ hk => (⟨hk, hk.2⟩ : _ ∧ k_ ≠ gb206))) (fun _ hk => hk.2) (.int .i64 ((rd_T26 x7_2 x23_2).f0))) (fun _ hk => hk.2) (.string ((rd_T26 x7_2 x23_2).f1))) (fun _ hk => hk.2) (.int .i64 ((rd_T26 x7_2 x23_2).f2))) (fun _ hk => hk.2) (.int .i64 ((rd_T26 x7_2 x23_2).f3))) (fun _ hk => hk.2) (.int .i64 ((rd_T26 x7_2 x23_2).f4))) (fun _ hk => hk.2) (.int .i64 ((rd_T26 x7_2 x23_2).f5))) (fun _ h_ => h_.1))) hb); replace BK206 := uQ BK206 hb #[.int .i64 ((rd_T26 x7_2 x23_2).f0), .string ((rd_T26 x7_2 x23_2).f1), .int .i64 ((rd_T26 x7_2 x23_2).f2), .int .i64 ((rd_T26 x7_2 x23_2).f3), .int .i64 ((rd_T26 x7_2 x23_2).f4), .int .i64 ((rd_T26 x7_2 x23_2).f5)]; replace HB := uB HB hb; (try clear hb); (try clear hk); have hcz23_0 := ci BK206.out 0 ((rd_T26 x7_2 x23_2).f0) rfl; have hcz23_1 : w22.cell? ⟨gb206, 1, none⟩ = some (.string ((rd_T26 x7_2 x23_2).f1)) := cb BK206 1; have hcz23_2 := ci BK206.out 2 ((rd_T26 x7_2 x23_2).f2) rfl; have hcz23_3 := ci BK206.out 3 ((rd_T26 x7_2 x23_2).f3) rfl; have hcz23_4 := ci BK206.out 4 ((rd_T26 x7_2 x23_2).f4) rfl; have hcz23_5 := ci BK206.out 5 ((rd_T26 x7_2 x23_2).f5) rfl; have hfz23_0 := fun j_ : Nat => blk_frozen BK206.out j_; have p19 : 0 ≤ (x23_2 : Int) := of_decide_eq_true asmB; have q19 : (x23_2 : Int) < ((x7_2.length : Int) : Int) := of_decide_eq_true asmB; obtain ⟨go19, co19, eo19, gb19, gl19, cl19, HG19⟩ := Kd.R_form HO_7.out (by omega); (first | cases eo19 | (injection eo19 with ea_ en_ ec_; (first | subst ea_ | (injection ea_ with ea_; subst ea_)); subst ec_; clear en_)); have GB19 := Aside0.mk gb19; have GG19 := Aside0.mk HG19; clear gb19 gl19 HG19; (first | simp only [add_plain] at hx205_0 | skip); (first | simp only [add_plain] at hx205_1 | skip); (first | simp only [add_plain] at hx205_2 | skip); (first | simp only [add_plain] at hx205_3 | skip); (first | simp only [add_plain] at hx205_4 | skip); (first | simp only [add_plain] at hx205_5 | skip); obtain ⟨ce19, hcl19, hM19, hcc19, hfr19⟩ := Kd.R_elem HO_7.out z26 (x23_2 : Int) p19 q19; obtain rfl := k26_openM hM19; have hx19_0 : w22.cell? ⟨go19, (x23_2 : Int).toNat * 6, none⟩ = some (.int .i64 ((rd_T26 x7_2 x23_2).f0)) := hcc19 0 _ rfl; have hx19_1 : w22.cell? ⟨go19, (x23_2 : Int).toNat * 6 + 1, none⟩ = some (.string ((rd_T26 x7_2 x23_2).f1)) := hcc19 1 _ rfl; have hx19_2 : w22.cell? ⟨go19, (x23_2 : Int).toNat * 6 + 2, none⟩ = some (.int .i64 ((rd_T26 x7_2 x23_2).f2)) := hcc19 2 _ rfl; have hx19_3 : w22.cell? ⟨go19, (x23_2 : Int).toNat * 6 + 3, none⟩ = some (.int .i64 ((rd_T26 x7_2 x23_2).f3)) := hcc19 3 _ rfl; have hx19_4 : w22.cell? ⟨go19, (x23_2 : Int).toNat * 6 + 4, none⟩ = some (.int .i64 ((rd_T26 x7_2 x23_2).f4)) := hcc19 4 _ rfl; have hx19_5 : w22.cell? ⟨go19, (x23_2 : Int).toNat * 6 + 5, none⟩ = some (.int .i64 ((rd_T26 x7_2 x23_2).f5)) := hcc19 5 _ rfl; have hf19_0 : w22.frozen? ⟨go19, (x23_2 : Int).toNat * 6, none⟩ = false := hfr19 0; have hf19_1 : w22.frozen? ⟨go19, (x23_2 : Int).toNat * 6 + 1, none⟩ = false := hfr19 1; have hf19_2 : w22.frozen? ⟨go19, (x23_2 : Int).toNat * 6 + 2, none⟩ = false := hfr19 2; have hf19_3 : w22.frozen? ⟨go19, (x23_2 : Int).toNat * 6 + 3, none⟩ = false := hfr19 3; have hf19_4 : w22.frozen? ⟨go19, (x23_2 : Int).toNat * 6 + 4, none⟩ = false := hfr19 4; have hf19_5 : w22.frozen? ⟨go19, (x23_2 : Int).toNat * 6 + 5, none⟩ = false := hfr19 5; clear hcl19 hcc19 hfr19 hM19; replace p19 := eq_true p19; replace q19 := eq_true q19; have n_ := Aside0.mk (Kd.R_mono (ok' := (fun k_ => k_ ≠ gb206)) HO_7.out (fun k_ hk => hk.2)); clear HO_7; have HO_7 := n_; clear n_; have HX24 := Aside0.mk (show Kd.R k26 26 w22 w.heap.size (fun k_ => k_ ≠ gb206) (.slice (some ⟨go19, 0, none⟩) x7_2.length co12) x7_2 from (upR HO_7.out)); obtain ⟨ce24, hcl24, hM24, hcc24, hfr24⟩ := Kd.R_elem HX24.out z26 (x23_2 : Int) (of_decide_eq_true asmB) (by have h_ : (x23_2 : Int) < ((x7_2.length : Int) : Int) := of_decide_eq_true asmB; first | exact h_ | (have e_ := (Kd.R_reads' HO_7.out).1; omega) | simpa using h_); obtain rfl := k26_openM hM24; have HP24 := Kd.R_seg HX24.out (x23_2 : Int) (of_decide_eq_true asmB) (by have h_ : (x23_2 : Int) < ((x7_2.length : Int) : Int) := of_decide_eq_true asmB; first | exact h_ | (have e_ := (Kd.R_reads' HO_7.out).1; omega) | simpa using h_) (seg := [.int .i64 4]) (j := 5) hcl24 hcc24 (show 6 ≤ 6 from by decide) (x' := (⟨(rd_T26 x7_2 x23_2).f0, (rd_T26 x7_2 x23_2).f1, (rd_T26 x7_2 x23_2).f2, (rd_T26 x7_2 x23_2).f3, (rd_T26 x7_2 x23_2).f4, 4⟩ : S26)) (k26_mkM _ _ _ (⟨(rd_T26 x7_2 x23_2).f0, (rd_T26 x7_2 x23_2).f1, (rd_T26 x7_2 x23_2).f2, (rd_T26 x7_2 x23_2).f3, (rd_T26 x7_2 x23_2).f4, 4⟩ : S26) ) (fun _ hk => hk); have hx24_5 := hcc24 5 _ rfl; (try simp only [show (k26).sz = 6 from rfl, Nat.mul_one, Nat.add_zero] at hx24_5); have hf24_5 := hfr24 5; (try simp only [show (k26).sz = 6 from rfl, Nat.mul_one, Nat.add_zero] at hf24_5); clear hcl24 hcc24 hfr24 hM24) | ((with_reducible refine gate_store (t := 3) (p := 39) rfl ?_); refine store_event (t := 3) (p := 39) (v := ?vo_w25) (w1 := (w22.setCell ⟨go19, (x23_2 : Int).toNat * 6 + 5, none⟩ (.int .i64 4))) ?hg ?ho ?hn ?hr ?_; (case ho => rfl); (case hg => rfl); (case hn => rfl); (case hr => first | (go_simp; done) | (go_simp; rfl)); intro w25 hw; have hg : w22.grownBy w25 (some go19) := (by rw [hw]; exact HP24.2); have hp_ : Kd.R k26 26 w25 w.heap.size (fun k_ => k_ ≠ gb206) (.slice (some ⟨go19, 0, none⟩) x7_2.length co12) y208 := (by rw [hw, Ny208.out]; exact HP24.1); clear HP24; replace BK206 := Aside0.mk (blk_grown (g := gb206) (o := .cells #[.int .i64 ((rd_T26 x7_2 x23_2).f0), .string ((rd_T26 x7_2 x23_2).f1), .int .i64 ((rd_T26 x7_2 x23_2).f2), .int .i64 ((rd_T26 x7_2 x23_2).f3), .int .i64 ((rd_T26 x7_2 x23_2).f4), .int .i64 ((rd_T26 x7_2 x23_2).f5)] 26 (0, 0)) (upK BK206.out) hg (Kd.R_away HO_7.out (fun _ hk => hk))); replace HO_7 := Aside0.mk (hp_); replace HB := Aside0.mk ((by rw [hw]; exact below_set (HB.out) GB19.out : Below w.heap.size w w25)); clear hg hw hp_))
           (try simp only [← hl7_2])
           go_roundg k2
           case measure => have := HJ2.out; have := HK2.out; omega
           case rel => exact ⟨(y208), (wrap64 (x8_2 + 1)), (wrap64 (x23_2 + 1)), rB, rB, H', ⟨by have := HJ2.out; have := HK2.out; omega⟩, ⟨by (try simp only [hl7_2]); (with_reducible repeat (first | apply Kd.R_alloc | apply Kd.R_drewN | apply Kd.R_drew)); exact Kd.R_mono HO_7.out (fun _ hk => trivial)⟩, (aB HB)⟩
          ·have H' := Aside0.mk H
           clear H
           have p205 : 0 ≤ (x23_2 : Int) := of_decide_eq_true asmB
           have q205 : x23_2 < (x7_2.length : Int) := of_decide_eq_true asmB
           obtain ⟨ad205, e205, hx205_0, hx205_1, hx205_2, hx205_3, hx205_4, hx205_5⟩ := at_T26 (Kd.R_reads' HO_7.out).2.2 x23_2 p205 q205
           cases e205
           replace p205 := eq_true p205
           replace q205 := eq_true q205
           go_wp2_with (first | ((with_reducible refine gD 10 ?_); refine bxE 10 26 #[.int .i64 0, .string (⟨#[]⟩ : ByteArray), .int .i64 0, .int .i64 0, .int .i64 0, .int .i64 0] fun gb206 w26 hg hbox hb => ?_; have BK206 := Aside0.mk hbox; have GE206 := gB HB hg; replace HO_7 := Aside0.mk (Kd.R_below (Kd.R_elderB (upR HO_7.out) gb206 (Nat.le_of_eq hg.symm)) hb); replace HB := uB HB hb; clear hb hbox hg; have hcz27_0 := ci BK206.out 0 0 rfl; have hcz27_1 : w26.cell? ⟨gb206, 1, none⟩ = some (.string (⟨#[]⟩ : ByteArray)) := cb BK206 1; have hcz27_2 := ci BK206.out 2 0 rfl; have hcz27_3 := ci BK206.out 3 0 rfl; have hcz27_4 := ci BK206.out 4 0 rfl; have hcz27_5 := ci BK206.out 5 0 rfl; have hfz27_0 := fun j_ : Nat => blk_frozen BK206.out j_) | ((with_reducible refine gC 72 ?_); refine lA (some 29) Tryd.func72 (impl_Permit_counts.calls ((rd_T26 x7_2 x23_2).f0) ((rd_T26 x7_2 x23_2).f1) ((rd_T26 x7_2 x23_2).f2) ((rd_T26 x7_2 x23_2).f3) ((rd_T26 x7_2 x23_2).f4) ((rd_T26 x7_2 x23_2).f5) true _ A16.out) ?_; intro w28 hb; replace HO_7 := Aside0.mk (Kd.R_below (by (with_reducible repeat (first | apply Kd.R_alloc | apply Kd.R_drewN | apply Kd.R_drew)); exact (Kd.R_mono (Kd.R_far (p := ⟨gb206, 5, none⟩) (Kd.R_far (p := ⟨gb206, 4, none⟩) (Kd.R_far (p := ⟨gb206, 3, none⟩) (Kd.R_far (p := ⟨gb206, 2, none⟩) (Kd.R_far (p := ⟨gb206, 1, none⟩) (Kd.R_far (p := ⟨gb206, 0, none⟩) (Kd.R_mono HO_7.out (fun k_ hk => (⟨hk, hk.2⟩ : _ ∧ k_ ≠ gb206))) (fun _ hk => hk.2) (.int .i64 ((rd_T26 x7_2 x23_2).f0))) (fun _ hk => hk.2) (.string ((rd_T26 x7_2 x23_2).f1))) (fun _ hk => hk.2) (.int .i64 ((rd_T26 x7_2 x23_2).f2))) (fun _ hk => hk.2) (.int .i64 ((rd_T26 x7_2 x23_2).f3))) (fun _ hk => hk.2) (.int .i64 ((rd_T26 x7_2 x23_2).f4))) (fun _ hk => hk.2) (.int .i64 ((rd_T26 x7_2 x23_2).f5))) (fun _ h_ => h_.1))) hb); replace BK206 := uQ BK206 hb #[.int .i64 ((rd_T26 x7_2 x23_2).f0), .string ((rd_T26 x7_2 x23_2).f1), .int .i64 ((rd_T26 x7_2 x23_2).f2), .int .i64 ((rd_T26 x7_2 x23_2).f3), .int .i64 ((rd_T26 x7_2 x23_2).f4), .int .i64 ((rd_T26 x7_2 x23_2).f5)]; replace HB := uB HB hb; (try clear hb); (try clear hk); have hcz29_0 := ci BK206.out 0 ((rd_T26 x7_2 x23_2).f0) rfl; have hcz29_1 : w28.cell? ⟨gb206, 1, none⟩ = some (.string ((rd_T26 x7_2 x23_2).f1)) := cb BK206 1; have hcz29_2 := ci BK206.out 2 ((rd_T26 x7_2 x23_2).f2) rfl; have hcz29_3 := ci BK206.out 3 ((rd_T26 x7_2 x23_2).f3) rfl; have hcz29_4 := ci BK206.out 4 ((rd_T26 x7_2 x23_2).f4) rfl; have hcz29_5 := ci BK206.out 5 ((rd_T26 x7_2 x23_2).f5) rfl; have hfz29_0 := fun j_ : Nat => blk_frozen BK206.out j_))
           (try simp only [← hl7_2])
           go_roundg k2
           case measure => have := HJ2.out; have := HK2.out; omega
           case rel => exact ⟨(x7_2), (x8_2), (wrap64 (x23_2 + 1)), rB, rB, H', ⟨by have := HJ2.out; have := HK2.out; omega⟩, ⟨by (try simp only [hl7_2]); (with_reducible repeat (first | apply Kd.R_alloc | apply Kd.R_drewN | apply Kd.R_drew)); exact Kd.R_mono HO_7.out (fun _ hk => trivial)⟩, (aB HB)⟩
         ·replace H := iF (by decide) H
          have H' := Aside0.mk H
          clear H
          have p205 : 0 ≤ (x23_2 : Int) := of_decide_eq_true asmB
          have q205 : x23_2 < (x7_2.length : Int) := of_decide_eq_true asmB
          obtain ⟨ad205, e205, hx205_0, hx205_1, hx205_2, hx205_3, hx205_4, hx205_5⟩ := at_T26 (Kd.R_reads' HO_7.out).2.2 x23_2 p205 q205
          cases e205
          replace p205 := eq_true p205
          replace q205 := eq_true q205
          go_wp2_with (first | ((with_reducible refine gD 10 ?_); refine bxE 10 26 #[.int .i64 0, .string (⟨#[]⟩ : ByteArray), .int .i64 0, .int .i64 0, .int .i64 0, .int .i64 0] fun gb206 w30 hg hbox hb => ?_; have BK206 := Aside0.mk hbox; have GE206 := gB HB hg; replace HO_7 := Aside0.mk (Kd.R_below (Kd.R_elderB (upR HO_7.out) gb206 (Nat.le_of_eq hg.symm)) hb); replace HB := uB HB hb; clear hb hbox hg; have hcz31_0 := ci BK206.out 0 0 rfl; have hcz31_1 : w30.cell? ⟨gb206, 1, none⟩ = some (.string (⟨#[]⟩ : ByteArray)) := cb BK206 1; have hcz31_2 := ci BK206.out 2 0 rfl; have hcz31_3 := ci BK206.out 3 0 rfl; have hcz31_4 := ci BK206.out 4 0 rfl; have hcz31_5 := ci BK206.out 5 0 rfl; have hfz31_0 := fun j_ : Nat => blk_frozen BK206.out j_) | ((with_reducible refine gC 72 ?_); refine lA (some 29) Tryd.func72 (impl_Permit_counts.calls ((rd_T26 x7_2 x23_2).f0) ((rd_T26 x7_2 x23_2).f1) ((rd_T26 x7_2 x23_2).f2) ((rd_T26 x7_2 x23_2).f3) ((rd_T26 x7_2 x23_2).f4) ((rd_T26 x7_2 x23_2).f5) false _ A16.out) ?_; intro w32 hb; replace HO_7 := Aside0.mk (Kd.R_below (by (with_reducible repeat (first | apply Kd.R_alloc | apply Kd.R_drewN | apply Kd.R_drew)); exact (Kd.R_mono (Kd.R_far (p := ⟨gb206, 5, none⟩) (Kd.R_far (p := ⟨gb206, 4, none⟩) (Kd.R_far (p := ⟨gb206, 3, none⟩) (Kd.R_far (p := ⟨gb206, 2, none⟩) (Kd.R_far (p := ⟨gb206, 1, none⟩) (Kd.R_far (p := ⟨gb206, 0, none⟩) (Kd.R_mono HO_7.out (fun k_ hk => (⟨hk, hk.2⟩ : _ ∧ k_ ≠ gb206))) (fun _ hk => hk.2) (.int .i64 ((rd_T26 x7_2 x23_2).f0))) (fun _ hk => hk.2) (.string ((rd_T26 x7_2 x23_2).f1))) (fun _ hk => hk.2) (.int .i64 ((rd_T26 x7_2 x23_2).f2))) (fun _ hk => hk.2) (.int .i64 ((rd_T26 x7_2 x23_2).f3))) (fun _ hk => hk.2) (.int .i64 ((rd_T26 x7_2 x23_2).f4))) (fun _ hk => hk.2) (.int .i64 ((rd_T26 x7_2 x23_2).f5))) (fun _ h_ => h_.1))) hb); replace BK206 := uQ BK206 hb #[.int .i64 ((rd_T26 x7_2 x23_2).f0), .string ((rd_T26 x7_2 x23_2).f1), .int .i64 ((rd_T26 x7_2 x23_2).f2), .int .i64 ((rd_T26 x7_2 x23_2).f3), .int .i64 ((rd_T26 x7_2 x23_2).f4), .int .i64 ((rd_T26 x7_2 x23_2).f5)]; replace HB := uB HB hb; (try clear hb); (try clear hk)))
          (try simp only [← hl7_2])
          go_roundg k2
          case measure => have := HJ2.out; have := HK2.out; omega
          case rel => exact ⟨(x7_2), (x8_2), (wrap64 (x23_2 + 1)), rB, rB, H', ⟨by have := HJ2.out; have := HK2.out; omega⟩, ⟨by (try simp only [hl7_2]); (with_reducible repeat (first | apply Kd.R_alloc | apply Kd.R_drewN | apply Kd.R_drew)); exact Kd.R_mono HO_7.out (fun _ hk => trivial)⟩, (aB HB)⟩
        ·rw [if_neg c15] at H
         exact absurd H (by simp)
       ·rw [if_neg c14] at H
        exact absurd H (by simp)
      ·simp only [Option.some.injEq, Prod.mk.injEq] at H
       obtain ⟨rfl, rfl, rfl⟩ := H
       (try rw [hl7_2] at c13b0)
       go_wp2
       go_ret3
       exact ⟨_, eB, upR HO_7.out, (bW HB)⟩

/-! ### spec_l22Find: function 73 -/
def spec_l22Find.l0 : Nat → List (S26) → Int → Int → Option (Int)
 | 0, _, _, _ => none
 | k + 1, x0, x1, x5 => if x5 < (x0.length : Int) then (if 0 ≤ x5 then (if ((rd_T26 x0 x5).f0) = x1 then (some x5) else (spec_l22Find.l0 k x0 x1 (wrap64 (x5 + 1)))) else (none)) else (some (-1))
def spec_l22Find.f (k : Nat) (l0 : List (S26)) (a1 : Int) : Option (Int) := spec_l22Find.l0 k l0 a1 0
theorem spec_l22Find.mono_l : ∀ k, (∀ y0 y1 y2, LeO (spec_l22Find.l0 k y0 y1 y2) (spec_l22Find.l0 (k + 1) y0 y1 y2))
 | 0 => fun _ _ _ r h => by simp [spec_l22Find.l0] at h
 | k + 1 => by
  have ih0 := spec_l22Find.mono_l k
  ·intro y0 y1 y2
   unfold spec_l22Find.l0
   repeat' with_reducible first | apply ih0 | exact LeO.refl _ | exact LeO.none _ | refine LeO.ite ?_ ?_ | refine LeO.bind ?_ (fun _ => ?_)
theorem spec_l22Find.mono : ∀ a0 a1 k, LeO (spec_l22Find.f k a0 a1) (spec_l22Find.f (k + 1) a0 a1) := by
 intro a0 a1 k
 have ih0 := spec_l22Find.mono_l k
 unfold spec_l22Find.f
 repeat' with_reducible first | apply ih0 | exact LeO.refl _ | exact LeO.none _ | refine LeO.ite ?_ ?_ | refine LeO.bind ?_ (fun _ => ?_)
set_option maxHeartbeats 8000000 in
set_option maxRecDepth 100000 in
theorem spec_l22Find.calls (k : Nat) (A0 : Option Addr) (c0 : Nat) (l0 : List (S26)) (a1 r : Int) (w : World) (hr0 : Kd.C k26 w A0 l0.length l0) (hc0 : l0.length ≤ c0) (h : spec_l22Find.f k l0 a1 = some r) :
  Calls Tryd.prog 73 #[.slice A0 l0.length c0, .int .i64 a1] w fun e w' => e = .returned (.int .i64 r) ∧ Drawn0 w w' := by
 have HR0 := Aside0.mk hr0
 have HC0 := Aside0.mk hc0
 clear hr0 hc0
 have H : (spec_l22Find.l0 k l0 a1 0) = some r := h
 clear h
 have H' := Aside0.mk H
 clear H
 go_enter Tryd.func73, Tryd.ntmps73
 go_wp2
 go_loopg [5] k (fun kq v5 w' => ∃ (x5_1 : Int), v5 = .int .i64 x5_1 ∧ Aside0 (spec_l22Find.l0 kq l0 a1 x5_1 = some r) ∧ Aside0 (kq ≤ k) ∧ Drawn0 w w')
 case atStart => exact ⟨(0), rB, H', ⟨Nat.le_refl _⟩, by repeat (first | exact Drawn0.refl _ | apply Drawn0.step)⟩
 case round =>
  clear H'
  obtain ⟨x5_1, rfl, HA, HK1, ⟨m1, rfl⟩⟩ := hrel
  cases gk with
  | zero => exact absurd HA.out (by simp [spec_l22Find.l0])
  | succ k1 =>
   have H := HA.out
   clear HA
   simp only [spec_l22Find.l0] at H
   replace H := ifD H
   rcases H with ⟨H, -, c3b0⟩ | ⟨H, -, c3b0⟩
   ·by_cases c4 : 0 ≤ x5_1
    ·rw [if_pos c4] at H
     have c4b0 : decide (0 ≤ x5_1) = true := decide_eq_true c4
     clear c4
     replace H := ifI H
     rcases H with ⟨H, -, c5b0, c5b1⟩ | ⟨H, c5, c5b0, c5b1⟩
     ·obtain rfl := Option.some.inj H
      have p209 : 0 ≤ (x5_1 : Int) := of_decide_eq_true asmB
      have q209 : x5_1 < (l0.length : Int) := of_decide_eq_true asmB
      obtain ⟨ad209, e209, hx209_0, hx209_1, hx209_2, hx209_3, hx209_4, hx209_5⟩ := at_T26 HR0.out x5_1 p209 q209
      cases e209
      replace p209 := eq_true p209
      replace q209 := eq_true q209
      go_wp2
      go_ret
      exact ⟨rB, by repeat (first | exact Drawn0.refl _ | apply Drawn0.step)⟩
     ·have H' := Aside0.mk H
      clear H
      have p209 : 0 ≤ (x5_1 : Int) := of_decide_eq_true asmB
      have q209 : x5_1 < (l0.length : Int) := of_decide_eq_true asmB
      obtain ⟨ad209, e209, hx209_0, hx209_1, hx209_2, hx209_3, hx209_4, hx209_5⟩ := at_T26 HR0.out x5_1 p209 q209
      cases e209
      replace p209 := eq_true p209
      replace q209 := eq_true q209
      go_wp2
      go_roundg k1
      case measure => have := HK1.out; omega
      case rel => exact ⟨(wrap64 (x5_1 + 1)), rB, H', ⟨by have := HK1.out; omega⟩, by repeat (first | exact Drawn0.refl _ | apply Drawn0.step)⟩
    ·rw [if_neg c4] at H
     exact absurd H (by simp)
   ·obtain rfl := Option.some.inj H
    go_wp2
    go_ret
    exact ⟨rB, by repeat (first | exact Drawn0.refl _ | apply Drawn0.step)⟩

end Go.Proofs.YtgeioccfjgpijaaDoor.QFnPermits
