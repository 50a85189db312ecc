/- Contracts of Go functions that FnPermitDays reaches: the call computes what the plain function says. No condition. -/
import Derived.Test.YtgeioccfjgpijaaDoorQFnPermitDaysx0
import Derived.Test.YtgeioccfjgpijaaDoorQFnPermitDaysx1
import Derived.Test.YtgeioccfjgpijaaDoorQFnPermitDaysx2
import Derived.Test.YtgeioccfjgpijaaDoorQFnPermitDaysx3
import Derived.Test.YtgeioccfjgpijaaDoorQFnPermitDaysx5
import Derived.Test.YtgeioccfjgpijaaDoorQFnPermitDaysx6
import Derived.Test.YtgeioccfjgpijaaDoorQFnPermitDaysx7
namespace Go.Proofs.YtgeioccfjgpijaaDoor.QFnPermitDays
open Go.RowKit Go.Proofs.YtgeioccfjgpijaaDoorW.PrintWords Go.Proofs.YtgeioccfjgpijaaDoorW.PrintLast Go.Proofs.YtgeioccfjgpijaaDoorW.PrintMore
attribute [local go_sem] max2_int min2_int max_two min_two max_three min_three max_four min_four   -- for this text's walks alone
set_option linter.unusedVariables false
set_option linter.unusedSimpArgs false

attribute [local go_sem high] eqA26
/-! ### impl_withState: function 75 -/
def impl_withState.f (k : Nat) (l0 : List (S26)) (a1 a2 : Int) : Option ((List (S26)) × Bool) := (impl_Permit_68.f l0).bind fun t233 => (if 0 ≤ a1 then (if a1 < (t233.length : Int) then ((some (t233.set (a1 : Int).toNat (⟨(rd_T26 t233 a1).f0, (rd_T26 t233 a1).f1, (rd_T26 t233 a1).f2, (rd_T26 t233 a1).f3, (rd_T26 t233 a1).f4, a2⟩ : S26) : List (S26))).bind fun y236 => ((impl_ArePermits.f k y236).bind fun t237 => (if t237 = true then (some (y236, true)) else (some (([] : List (S26)), false))))) else (none)) else (none))
theorem impl_withState.mono : ∀ a0 a1 a2 k, LeO (impl_withState.f k a0 a1 a2) (impl_withState.f (k + 1) a0 a1 a2) := by
 intro a0 a1 a2 k
 unfold impl_withState.f
 repeat' with_reducible first | apply impl_ArePermits.mono | exact LeO.refl _ | exact LeO.none _ | refine LeO.ite ?_ ?_ | refine LeO.bind ?_ (fun _ => ?_)
set_option maxHeartbeats 8000000 in
set_option maxRecDepth 100000 in
theorem impl_withState.calls (k : Nat) (A0 : Option Addr) (c0 : Nat) (l0 : List (S26)) (a1 a2 : Int) (r1 : List (S26)) (r2 : Bool) (w : World) (hr0 : Kd.C k26 w A0 l0.length l0) (hc0 : l0.length ≤ c0) (h : impl_withState.f k l0 a1 a2 = some (r1, r2)) :
  Calls Tryd.prog 75 #[.slice A0 l0.length c0, .int .i64 a1, .int .i64 a2] w fun e w' => ∃ v0_ : Value, e = .returned (.tuple #[v0_, .bool r2]) ∧ Kd.R k26 26 w' w.heap.size (fun _ => True) v0_ r1 ∧ Below w.heap.size w w' := by
 have HR0 := Aside0.mk hr0
 have HC0 := Aside0.mk hc0
 clear hr0 hc0
 have HB := Aside0.mk (Below.refl w.heap.size w)
 have H := h
 clear h
 unfold impl_withState.f at H
 replace H := bA H
 obtain ⟨t233, A4, H⟩ := H
 by_cases c5 : 0 ≤ a1
 ·rw [if_pos c5] at H
  have c5b0 : decide (0 ≤ a1) = true := decide_eq_true c5
  clear c5
  by_cases c6 : a1 < (t233.length : Int)
  ·rw [if_pos c6] at H
   have c6b0 : decide (a1 < (t233.length : Int)) = true := decide_eq_true c6
   clear c6
   obtain ⟨y236, hy236⟩ : ∃ y_ : List (S26), y_ = (t233.set (a1 : Int).toNat (⟨(rd_T26 t233 a1).f0, (rd_T26 t233 a1).f1, (rd_T26 t233 a1).f2, (rd_T26 t233 a1).f3, (rd_T26 t233 a1).f4, a2⟩ : S26)) := ⟨_, rfl⟩
   replace H : ((impl_ArePermits.f k y236).bind fun t237 => (if t237 = true then (some (y236, true)) else (some (([] : List (S26)), false)))) = some (r1, r2) := by first | (rw [hy236]; with_reducible exact H) | (have H2_ := (Option.bind_some _ _).symm.trans H; rw [hy236]; with_reducible exact H2_) | (have H2_ := (Option.bind_some _ _).symm.trans H; with_reducible exact H2_) | with_reducible exact H | (rw [hy236]; exact H) | exact H
   have Ny236 := Aside0.mk hy236
   clear hy236
   replace H := bA H
   obtain ⟨t237, A8, H⟩ := H
   rcases Bool.eq_false_or_eq_true t237 with rfl | rfl
   ·replace H := iT rfl H
    simp only [Option.some.injEq, Prod.mk.injEq] at H
    obtain ⟨rfl, rfl⟩ := H
    go_enter Tryd.func75, Tryd.ntmps75
    go_wp2_with (first | ((with_reducible refine gate_callee (f := 68) rfl ?_); refine goesL_ (some 10) rfl rfl Tryd.func68 (by kernel_rfl) rfl #[.slice A0 l0.length c0] rfl argsB ?_; (with_reducible refine (impl_Permit_68.calls _ _ l0 t233 _ ?side1 ?side2 A4.out).mono ?_); (case side1 => repeat (first | exact HR0.out | (with_reducible refine Kd.C_alloc ?_ _) | (with_reducible refine Kd.C_drewN ?_ _) | (with_reducible refine Kd.C_drew ?_))); (case side2 => exact HC0.out); rintro e w10 ⟨v234, rfl, ho0, hb⟩; refine ⟨_, rfl, ?_⟩; have HO235 := Aside0.mk (Kd.R_lower ho0 (below_size (bW HB))); replace HB := uB HB hb; (try clear hb); (try clear hk); (try clear ho0); have p7 : 0 ≤ (a1 : Int) := of_decide_eq_true asmB; have q7 : (a1 : Int) < ((t233.length : Int) : Int) := of_decide_eq_true asmB; obtain ⟨go7, co7, eo7, gb7, gl7, cl7, HG7⟩ := Kd.R_form HO235.out (by omega); (first | cases eo7 | (injection eo7 with ea_ en_ ec_; (first | subst ea_ | (injection ea_ with ea_; subst ea_)); subst ec_; clear en_)); have GB7 := Aside0.mk gb7; have GG7 := Aside0.mk HG7; clear gb7 gl7 HG7; obtain ⟨ce7, hcl7, hM7, hcc7, hfr7⟩ := Kd.R_elem HO235.out z26 (a1 : Int) p7 q7; obtain rfl := k26_openM hM7; have hx7_0 : w10.cell? ⟨go7, (a1 : Int).toNat * 6, none⟩ = some (.int .i64 ((rd_T26 t233 a1).f0)) := hcc7 0 _ rfl; have hx7_1 : w10.cell? ⟨go7, (a1 : Int).toNat * 6 + 1, none⟩ = some (.string ((rd_T26 t233 a1).f1)) := hcc7 1 _ rfl; have hx7_2 : w10.cell? ⟨go7, (a1 : Int).toNat * 6 + 2, none⟩ = some (.int .i64 ((rd_T26 t233 a1).f2)) := hcc7 2 _ rfl; have hx7_3 : w10.cell? ⟨go7, (a1 : Int).toNat * 6 + 3, none⟩ = some (.int .i64 ((rd_T26 t233 a1).f3)) := hcc7 3 _ rfl; have hx7_4 : w10.cell? ⟨go7, (a1 : Int).toNat * 6 + 4, none⟩ = some (.int .i64 ((rd_T26 t233 a1).f4)) := hcc7 4 _ rfl; have hx7_5 : w10.cell? ⟨go7, (a1 : Int).toNat * 6 + 5, none⟩ = some (.int .i64 ((rd_T26 t233 a1).f5)) := hcc7 5 _ rfl; have hf7_0 : w10.frozen? ⟨go7, (a1 : Int).toNat * 6, none⟩ = false := hfr7 0; have hf7_1 : w10.frozen? ⟨go7, (a1 : Int).toNat * 6 + 1, none⟩ = false := hfr7 1; have hf7_2 : w10.frozen? ⟨go7, (a1 : Int).toNat * 6 + 2, none⟩ = false := hfr7 2; have hf7_3 : w10.frozen? ⟨go7, (a1 : Int).toNat * 6 + 3, none⟩ = false := hfr7 3; have hf7_4 : w10.frozen? ⟨go7, (a1 : Int).toNat * 6 + 4, none⟩ = false := hfr7 4; have hf7_5 : w10.frozen? ⟨go7, (a1 : Int).toNat * 6 + 5, none⟩ = false := hfr7 5; clear hcl7 hcc7 hfr7 hM7; replace p7 := eq_true p7; replace q7 := eq_true q7; have HX11 := Aside0.mk (show Kd.R k26 26 w10 w.heap.size (fun _ => True) (.slice (some ⟨go7, 0, none⟩) t233.length co7) t233 from (upR HO235.out)); obtain ⟨ce11, hcl11, hM11, hcc11, hfr11⟩ := Kd.R_elem HX11.out z26 (a1 : Int) (of_decide_eq_true asmB) (by have h_ : (a1 : Int) < ((t233.length : Int) : Int) := of_decide_eq_true asmB; first | exact h_ | (have e_ := (Kd.R_reads' HO235.out).1; omega) | simpa using h_); obtain rfl := k26_openM hM11; have HP11 := Kd.R_seg HX11.out (a1 : Int) (of_decide_eq_true asmB) (by have h_ : (a1 : Int) < ((t233.length : Int) : Int) := of_decide_eq_true asmB; first | exact h_ | (have e_ := (Kd.R_reads' HO235.out).1; omega) | simpa using h_) (seg := [.int .i64 a2]) (j := 5) hcl11 hcc11 (show 6 ≤ 6 from by decide) (x' := (⟨(rd_T26 t233 a1).f0, (rd_T26 t233 a1).f1, (rd_T26 t233 a1).f2, (rd_T26 t233 a1).f3, (rd_T26 t233 a1).f4, a2⟩ : S26)) (k26_mkM _ _ _ (⟨(rd_T26 t233 a1).f0, (rd_T26 t233 a1).f1, (rd_T26 t233 a1).f2, (rd_T26 t233 a1).f3, (rd_T26 t233 a1).f4, a2⟩ : S26) ) (fun _ hk => hk); have hx11_5 := hcc11 5 _ rfl; (try simp only [show (k26).sz = 6 from rfl, Nat.mul_one, Nat.add_zero] at hx11_5); have hf11_5 := hfr11 5; (try simp only [show (k26).sz = 6 from rfl, Nat.mul_one, Nat.add_zero] at hf11_5); clear hcl11 hcc11 hfr11 hM11) | ((with_reducible refine gate_store (t := 3) (p := 15) rfl ?_); refine store_event (t := 3) (p := 15) (v := ?vo_w12) (w1 := (w10.setCell ⟨go7, (a1 : Int).toNat * 6 + 5, none⟩ (.int .i64 a2))) ?hg ?ho ?hn ?hr ?_; (case ho => rfl); (case hg => rfl); (case hn => rfl); (case hr => first | (go_simp; done) | (go_simp; rfl)); intro w12 hw; have hg : w10.grownBy w12 (some go7) := (by rw [hw]; exact HP11.2); have hp_ : Kd.R k26 26 w12 w.heap.size (fun _ => True) (.slice (some ⟨go7, 0, none⟩) t233.length co7) y236 := (by rw [hw, Ny236.out]; exact HP11.1); clear HP11; replace HO235 := Aside0.mk (hp_); replace HB := Aside0.mk ((by rw [hw]; exact below_set (HB.out) GB7.out : Below w.heap.size w w12)); clear hg hw hp_) | ((with_reducible refine gate_callee (f := 21) rfl ?_); refine goesL_ (some 17) rfl rfl Tryd.func21 (by kernel_rfl) rfl #[.slice (some ⟨go7, 0, none⟩) y236.length co7] rfl (by (try simp only [List.map_toArray, List.map_cons, List.map_nil]); first | done | (rw [show y236.length = t233.length from (Kd.R_reads' HO235.out).1.symm] <;> rfl) | rfl | (simp only [List.length_drop, List.length_take]; rfl)) ?_; (with_reducible refine (impl_ArePermits.calls k _ _ y236 true _ ?side1 ?side2 A8.out).mono ?_); (case side1 => repeat (first | exact (Kd.R_reads' HO235.out).2.2 | (with_reducible refine Kd.C_alloc ?_ _) | (with_reducible refine Kd.C_drewN ?_ _) | (with_reducible refine Kd.C_drew ?_))); (case side2 => rw [show y236.length = t233.length from (Kd.R_reads' HO235.out).1.symm]; exact (Kd.R_reads' HO235.out).2.1); rintro e w13 ⟨rfl, hb⟩; refine ⟨_, rfl, ?_⟩; replace HO235 := uR HO235 hb; replace HB := uB HB hb; (try clear hb); (try clear hk)))
    go_ret2
    exact ⟨_, eB, upR HO235.out, (bW HB)⟩
   ·replace H := iF (by decide) H
    simp only [Option.some.injEq, Prod.mk.injEq] at H
    obtain ⟨rfl, rfl⟩ := H
    go_enter Tryd.func75, Tryd.ntmps75
    go_wp2_with (first | ((with_reducible refine gate_callee (f := 68) rfl ?_); refine goesL_ (some 10) rfl rfl Tryd.func68 (by kernel_rfl) rfl #[.slice A0 l0.length c0] rfl argsB ?_; (with_reducible refine (impl_Permit_68.calls _ _ l0 t233 _ ?side1 ?side2 A4.out).mono ?_); (case side1 => repeat (first | exact HR0.out | (with_reducible refine Kd.C_alloc ?_ _) | (with_reducible refine Kd.C_drewN ?_ _) | (with_reducible refine Kd.C_drew ?_))); (case side2 => exact HC0.out); rintro e w14 ⟨v234, rfl, ho0, hb⟩; refine ⟨_, rfl, ?_⟩; have HO235 := Aside0.mk (Kd.R_lower ho0 (below_size (bW HB))); replace HB := uB HB hb; (try clear hb); (try clear hk); (try clear ho0); have p7 : 0 ≤ (a1 : Int) := of_decide_eq_true asmB; have q7 : (a1 : Int) < ((t233.length : Int) : Int) := of_decide_eq_true asmB; obtain ⟨go7, co7, eo7, gb7, gl7, cl7, HG7⟩ := Kd.R_form HO235.out (by omega); (first | cases eo7 | (injection eo7 with ea_ en_ ec_; (first | subst ea_ | (injection ea_ with ea_; subst ea_)); subst ec_; clear en_)); have GB7 := Aside0.mk gb7; have GG7 := Aside0.mk HG7; clear gb7 gl7 HG7; obtain ⟨ce7, hcl7, hM7, hcc7, hfr7⟩ := Kd.R_elem HO235.out z26 (a1 : Int) p7 q7; obtain rfl := k26_openM hM7; have hx7_0 : w14.cell? ⟨go7, (a1 : Int).toNat * 6, none⟩ = some (.int .i64 ((rd_T26 t233 a1).f0)) := hcc7 0 _ rfl; have hx7_1 : w14.cell? ⟨go7, (a1 : Int).toNat * 6 + 1, none⟩ = some (.string ((rd_T26 t233 a1).f1)) := hcc7 1 _ rfl; have hx7_2 : w14.cell? ⟨go7, (a1 : Int).toNat * 6 + 2, none⟩ = some (.int .i64 ((rd_T26 t233 a1).f2)) := hcc7 2 _ rfl; have hx7_3 : w14.cell? ⟨go7, (a1 : Int).toNat * 6 + 3, none⟩ = some (.int .i64 ((rd_T26 t233 a1).f3)) := hcc7 3 _ rfl; have hx7_4 : w14.cell? ⟨go7, (a1 : Int).toNat * 6 + 4, none⟩ = some (.int .i64 ((rd_T26 t233 a1).f4)) := hcc7 4 _ rfl; have hx7_5 : w14.cell? ⟨go7, (a1 : Int).toNat * 6 + 5, none⟩ = some (.int .i64 ((rd_T26 t233 a1).f5)) := hcc7 5 _ rfl; have hf7_0 : w14.frozen? ⟨go7, (a1 : Int).toNat * 6, none⟩ = false := hfr7 0; have hf7_1 : w14.frozen? ⟨go7, (a1 : Int).toNat * 6 + 1, none⟩ = false := hfr7 1; have hf7_2 : w14.frozen? ⟨go7, (a1 : Int).toNat * 6 + 2, none⟩ = false := hfr7 2; have hf7_3 : w14.frozen? ⟨go7, (a1 : Int).toNat * 6 + 3, none⟩ = false := hfr7 3; have hf7_4 : w14.frozen? ⟨go7, (a1 : Int).toNat * 6 + 4, none⟩ = false := hfr7 4; have hf7_5 : w14.frozen? ⟨go7, (a1 : Int).toNat * 6 + 5, none⟩ = false := hfr7 5; clear hcl7 hcc7 hfr7 hM7; replace p7 := eq_true p7; replace q7 := eq_true q7; have HX15 := Aside0.mk (show Kd.R k26 26 w14 w.heap.size (fun _ => True) (.slice (some ⟨go7, 0, none⟩) t233.length co7) t233 from (upR HO235.out)); obtain ⟨ce15, hcl15, hM15, hcc15, hfr15⟩ := Kd.R_elem HX15.out z26 (a1 : Int) (of_decide_eq_true asmB) (by have h_ : (a1 : Int) < ((t233.length : Int) : Int) := of_decide_eq_true asmB; first | exact h_ | (have e_ := (Kd.R_reads' HO235.out).1; omega) | simpa using h_); obtain rfl := k26_openM hM15; have HP15 := Kd.R_seg HX15.out (a1 : Int) (of_decide_eq_true asmB) (by have h_ : (a1 : Int) < ((t233.length : Int) : Int) := of_decide_eq_true asmB; first | exact h_ | (have e_ := (Kd.R_reads' HO235.out).1; omega) | simpa using h_) (seg := [.int .i64 a2]) (j := 5) hcl15 hcc15 (show 6 ≤ 6 from by decide) (x' := (⟨(rd_T26 t233 a1).f0, (rd_T26 t233 a1).f1, (rd_T26 t233 a1).f2, (rd_T26 t233 a1).f3, (rd_T26 t233 a1).f4, a2⟩ : S26)) (k26_mkM _ _ _ (⟨(rd_T26 t233 a1).f0, (rd_T26 t233 a1).f1, (rd_T26 t233 a1).f2, (rd_T26 t233 a1).f3, (rd_T26 t233 a1).f4, a2⟩ : S26) ) (fun _ hk => hk); have hx15_5 := hcc15 5 _ rfl; (try simp only [show (k26).sz = 6 from rfl, Nat.mul_one, Nat.add_zero] at hx15_5); have hf15_5 := hfr15 5; (try simp only [show (k26).sz = 6 from rfl, Nat.mul_one, Nat.add_zero] at hf15_5); clear hcl15 hcc15 hfr15 hM15) | ((with_reducible refine gate_store (t := 3) (p := 15) rfl ?_); refine store_event (t := 3) (p := 15) (v := ?vo_w16) (w1 := (w14.setCell ⟨go7, (a1 : Int).toNat * 6 + 5, none⟩ (.int .i64 a2))) ?hg ?ho ?hn ?hr ?_; (case ho => rfl); (case hg => rfl); (case hn => rfl); (case hr => first | (go_simp; done) | (go_simp; rfl)); intro w16 hw; have hg : w14.grownBy w16 (some go7) := (by rw [hw]; exact HP15.2); have hp_ : Kd.R k26 26 w16 w.heap.size (fun _ => True) (.slice (some ⟨go7, 0, none⟩) t233.length co7) y236 := (by rw [hw, Ny236.out]; exact HP15.1); clear HP15; replace HO235 := Aside0.mk (hp_); replace HB := Aside0.mk ((by rw [hw]; exact below_set (HB.out) GB7.out : Below w.heap.size w w16)); clear hg hw hp_) | ((with_reducible refine gate_callee (f := 21) rfl ?_); refine goesL_ (some 17) rfl rfl Tryd.func21 (by kernel_rfl) rfl #[.slice (some ⟨go7, 0, none⟩) y236.length co7] rfl (by (try simp only [List.map_toArray, List.map_cons, List.map_nil]); first | done | (rw [show y236.length = t233.length from (Kd.R_reads' HO235.out).1.symm] <;> rfl) | rfl | (simp only [List.length_drop, List.length_take]; rfl)) ?_; (with_reducible refine (impl_ArePermits.calls k _ _ y236 false _ ?side1 ?side2 A8.out).mono ?_); (case side1 => repeat (first | exact (Kd.R_reads' HO235.out).2.2 | (with_reducible refine Kd.C_alloc ?_ _) | (with_reducible refine Kd.C_drewN ?_ _) | (with_reducible refine Kd.C_drew ?_))); (case side2 => rw [show y236.length = t233.length from (Kd.R_reads' HO235.out).1.symm]; exact (Kd.R_reads' HO235.out).2.1); rintro e w17 ⟨rfl, hb⟩; refine ⟨_, rfl, ?_⟩; replace HO235 := uR HO235 hb; replace HB := uB HB hb; (try clear hb); (try clear hk)))
    go_ret2
    exact ⟨_, eB, by first | exact Kd.R_nil _ _ _ _ _ | exact Kd.N_nil _ _ _ _ _ | exact Kd.V_nil _ _ _ _ _ | exact Kd.Q_nil _ _ _ _ _ | exact Kd.S_nil _ _ _ _ _, (bW HB)⟩
  ·rw [if_neg c6] at H
   exact absurd H (by simp)
 ·rw [if_neg c5] at H
  exact absurd H (by simp)

/-! ### impl_DecidePermit: function 36 -/
def impl_DecidePermit.j0 : Nat → List (S26) → Bool → Int → Bool → Option ((List (S26)) × Bool)
 | 0, _, _, _, _ => none
 | k + 1, x0, x2, x8, x25 => if x25 = true then (some (([] : List (S26)), false)) else (if x2 = true then ((impl_withState.f k x0 x8 1).bind fun bt241 => (some (bt241.1, bt241.2))) else ((impl_withState.f k x0 x8 2).bind fun bt245 => (some (bt245.1, bt245.2))))
def impl_DecidePermit.f (k : Nat) (l0 : List (S26)) (a1 : Int) (a2 : Bool) : Option ((List (S26)) × Bool) := (impl_permitAt.f k l0 a1).bind fun bt238 => (if bt238.2 = true then (if 0 ≤ bt238.1 then (if bt238.1 < (l0.length : Int) then (impl_DecidePermit.j0 k l0 a2 bt238.1 (((rd_T26 l0 bt238.1).f5) != 0)) else (none)) else (none)) else (impl_DecidePermit.j0 k l0 a2 bt238.1 true))
theorem impl_DecidePermit.mono_l : ∀ k, (∀ y0 y1 y2 y3, LeO (impl_DecidePermit.j0 k y0 y1 y2 y3) (impl_DecidePermit.j0 (k + 1) y0 y1 y2 y3))
 | 0 => fun _ _ _ _ r h => by simp [impl_DecidePermit.j0] at h
 | k + 1 => by
  have ih0 := impl_DecidePermit.mono_l k
  ·intro y0 y1 y2 y3
   unfold impl_DecidePermit.j0
   repeat' with_reducible first | apply ih0 | apply impl_permitAt.mono | apply impl_withState.mono | exact LeO.refl _ | exact LeO.none _ | refine LeO.ite ?_ ?_ | refine LeO.bind ?_ (fun _ => ?_)
theorem impl_DecidePermit.mono : ∀ a0 a1 a2 k, LeO (impl_DecidePermit.f k a0 a1 a2) (impl_DecidePermit.f (k + 1) a0 a1 a2) := by
 intro a0 a1 a2 k
 have ih0 := impl_DecidePermit.mono_l k
 unfold impl_DecidePermit.f
 repeat' with_reducible first | apply ih0 | apply impl_permitAt.mono | apply impl_withState.mono | exact LeO.refl _ | exact LeO.none _ | refine LeO.ite ?_ ?_ | refine LeO.bind ?_ (fun _ => ?_)
set_option maxHeartbeats 8000000 in
set_option maxRecDepth 100000 in
theorem impl_DecidePermit.calls (k : Nat) (A0 : Option Addr) (c0 : Nat) (l0 : List (S26)) (a1 : Int) (a2 : Bool) (r1 : List (S26)) (r2 : Bool) (w : World) (hr0 : Kd.C k26 w A0 l0.length l0) (hc0 : l0.length ≤ c0) (h : impl_DecidePermit.f k l0 a1 a2 = some (r1, r2)) :
  Calls Tryd.prog 36 #[.slice A0 l0.length c0, .int .i64 a1, .bool a2] w fun e w' => ∃ v0_ : Value, e = .returned (.tuple #[v0_, .bool r2]) ∧ Kd.R k26 26 w' w.heap.size (fun _ => True) v0_ r1 ∧ Below w.heap.size w w' := by
 have HR0 := Aside0.mk hr0
 have HC0 := Aside0.mk hc0
 clear hr0 hc0
 have HB := Aside0.mk (Below.refl w.heap.size w)
 have H := h
 clear h
 unfold impl_DecidePermit.f at H
 replace H := Option.bind_eq_some_iff.mp H
 obtain ⟨⟨t238, t239⟩, A40, H⟩ := H
 replace H : (if t239 = true then (if 0 ≤ t238 then (if t238 < (l0.length : Int) then (impl_DecidePermit.j0 k l0 a2 t238 (((rd_T26 l0 t238).f5) != 0)) else (none)) else (none)) else (impl_DecidePermit.j0 k l0 a2 t238 true)) = some (r1, r2) := H
 have A4 := Aside0.mk A40
 clear A40
 have HC5 := Aside0.mk H
 clear H
 go_enter Tryd.func36, Tryd.ntmps36
 go_upto_region 2 with (first | ((with_reducible refine gC 74 ?_); refine lA (some 13) Tryd.func74 (impl_permitAt.calls k _ _ l0 a1 t238 t239 _ ?side1 ?side2 A4.out) ?_; (case side1 => repeat (first | exact HR0.out | (with_reducible refine Kd.C_alloc ?_ _) | (with_reducible refine Kd.C_drewN ?_ _) | (with_reducible refine Kd.C_drew ?_))); (case side2 => exact HC0.out); intro w6 hb; replace HB := uB HB hb; (try clear hb)))
 (try simp only [Act.put, List.setIfInBounds_toArray, List.set_cons_zero, List.set_cons_succ])
 go_cut [25] (fun v25 wc => ∃ (kq : Nat) (x25_4 : Bool), v25 = .bool x25_4 ∧ Aside0 (impl_DecidePermit.j0 kq l0 a2 t238 x25_4 = some (r1, r2)) ∧ Aside0 (kq ≤ k) ∧ Aside0 (Below w.heap.size w wc))
 case first =>
  have H := HC5.out
  clear HC5
  rcases Bool.eq_false_or_eq_true t239 with rfl | rfl
  ·replace H := iT rfl H
   by_cases c8 : 0 ≤ t238
   ·rw [if_pos c8] at H
    have c8b0 : decide (0 ≤ t238) = true := decide_eq_true c8
    clear c8
    (first | rw [c8b0] | (simp only [i64_w, i32_w]; rw [c8b0]) | skip)
    by_cases c9 : t238 < (l0.length : Int)
    ·rw [if_pos c9] at H
     have c9b0 : decide (t238 < (l0.length : Int)) = true := decide_eq_true c9
     clear c9
     have H' := Aside0.mk H
     clear H
     have p240 : 0 ≤ (t238 : Int) := of_decide_eq_true asmB
     have q240 : t238 < (l0.length : Int) := of_decide_eq_true asmB
     obtain ⟨ad240, e240, hx240_0, hx240_1, hx240_2, hx240_3, hx240_4, hx240_5⟩ := at_T26 HR0.out t238 p240 q240
     cases e240
     replace hx240_0 := bx HB.out hx240_0
     replace hx240_1 := bx HB.out hx240_1
     replace hx240_2 := bx HB.out hx240_2
     replace hx240_3 := bx HB.out hx240_3
     replace hx240_4 := bx HB.out hx240_4
     replace hx240_5 := bx HB.out hx240_5
     replace p240 := eq_true p240
     replace q240 := eq_true q240
     go_wp2
     go_meet
     case rel => exact ⟨_, ((((rd_T26 l0 t238).f5) != 0)), rB, H', leB, (aB HB)⟩
    ·rw [if_neg c9] at H
     exact absurd H (by simp)
   ·rw [if_neg c8] at H
    exact absurd H (by simp)
  ·replace H := iF (by decide) H
   have H' := Aside0.mk H
   clear H
   go_wp2
   go_meet
   case rel => exact ⟨_, (true), rB, H', leB, (aB HB)⟩
 case rest =>
  clear HC5
  obtain ⟨kq, x25_4, rfl, HA, HJ4, HB⟩ := hcut
  cases kq with
  | zero => exact absurd HA.out (by simp [impl_DecidePermit.j0])
  | succ kj4 =>
   have H := HA.out
   clear HA
   simp only [impl_DecidePermit.j0] at H
   rcases Bool.eq_false_or_eq_true x25_4 with rfl | rfl
   ·replace H := iT rfl H
    simp only [Option.some.injEq, Prod.mk.injEq] at H
    obtain ⟨rfl, rfl⟩ := H
    go_wp2
    go_ret2
    exact ⟨_, eB, by first | exact Kd.R_nil _ _ _ _ _ | exact Kd.N_nil _ _ _ _ _ | exact Kd.V_nil _ _ _ _ _ | exact Kd.Q_nil _ _ _ _ _ | exact Kd.S_nil _ _ _ _ _, (bW HB)⟩
   ·replace H := iF (by decide) H
    rcases Bool.eq_false_or_eq_true a2 with rfl | rfl
    ·replace H := iT rfl H
     replace H := Option.bind_eq_some_iff.mp H
     obtain ⟨⟨t241, t242⟩, A120, H⟩ := H
     replace H : (some (t241, t242)) = some (r1, r2) := H
     have A12 := Aside0.mk A120
     clear A120
     simp only [Option.some.injEq, Prod.mk.injEq] at H
     obtain ⟨rfl, rfl⟩ := H
     go_wp2_with (first | ((with_reducible refine gate_callee (f := 75) rfl ?_); refine goesL_ (some 29) rfl rfl Tryd.func75 (by kernel_rfl) rfl #[.slice A0 l0.length c0, .int .i64 t238, .int .i64 1] rfl argsB ?_; (with_reducible refine (impl_withState.calls kj4 _ _ l0 t238 1 t241 t242 _ ?side1 ?side2 A12.out).mono ?_); (case side1 => repeat (first | exact (Kd.C_below HR0.out HB.out) | (with_reducible refine Kd.C_alloc ?_ _) | (with_reducible refine Kd.C_drewN ?_ _) | (with_reducible refine Kd.C_drew ?_))); (case side2 => exact HC0.out); rintro e w13 ⟨v243, rfl, ho0, hb⟩; refine ⟨_, rfl, ?_⟩; have HO244 := Aside0.mk (Kd.R_lower ho0 (below_size (bW HB))); replace HB := uB HB hb; (try clear hb); (try clear ho0)))
     go_ret2
     exact ⟨_, eB, upR HO244.out, (bW HB)⟩
    ·replace H := iF (by decide) H
     replace H := Option.bind_eq_some_iff.mp H
     obtain ⟨⟨t245, t246⟩, A140, H⟩ := H
     replace H : (some (t245, t246)) = some (r1, r2) := H
     have A14 := Aside0.mk A140
     clear A140
     simp only [Option.some.injEq, Prod.mk.injEq] at H
     obtain ⟨rfl, rfl⟩ := H
     go_wp2_with (first | ((with_reducible refine gate_callee (f := 75) rfl ?_); refine goesL_ (some 34) rfl rfl Tryd.func75 (by kernel_rfl) rfl #[.slice A0 l0.length c0, .int .i64 t238, .int .i64 2] rfl argsB ?_; (with_reducible refine (impl_withState.calls kj4 _ _ l0 t238 2 t245 t246 _ ?side1 ?side2 A14.out).mono ?_); (case side1 => repeat (first | exact (Kd.C_below HR0.out HB.out) | (with_reducible refine Kd.C_alloc ?_ _) | (with_reducible refine Kd.C_drewN ?_ _) | (with_reducible refine Kd.C_drew ?_))); (case side2 => exact HC0.out); rintro e w15 ⟨v247, rfl, ho0, hb⟩; refine ⟨_, rfl, ?_⟩; have HO248 := Aside0.mk (Kd.R_lower ho0 (below_size (bW HB))); replace HB := uB HB hb; (try clear hb); (try clear ho0)))
     go_ret2
     exact ⟨_, eB, upR HO248.out, (bW HB)⟩

/-! ### spec_FreeDays: function 37 -/
mutual
def spec_FreeDays.j0 : Nat → List (S26) → ByteArray → Int → Int → List (List Int) → Bool → Option ((List (List Int)) × Bool)
 | 0, _, _, _, _, _, _ => none
 | k + 1, x0, x1, x2, x3, x10, x32 => if x32 = true then (some (x10, false)) else (spec_FreeDays.l0 k x0 x1 x3 x10 x2)
def spec_FreeDays.l0 : Nat → List (S26) → ByteArray → Int → List (List Int) → Int → Option ((List (List Int)) × Bool)
 | 0, _, _, _, _, _ => none
 | k + 1, x0, x1, x3, x10, x11 => if x11 ≤ x3 then ((spec_l22On.f k x0 x1 x11).bind fun t256 => (if t256 ≥ 0 then (spec_FreeDays.l0 k x0 x1 x3 x10 (wrap64 (x11 + 1))) else (if (x10.length : Int) > 0 then (if 0 ≤ (wrap64 ((x10.length : Int) - 1)) then (if (wrap64 ((x10.length : Int) - 1)) < (x10.length : Int) then (if 1 < ((rd_L5 x10 (wrap64 ((x10.length : Int) - 1))).length : Int) then (if (rd (rd_L5 x10 (wrap64 ((x10.length : Int) - 1))) 1) = (wrap64 (x11 - 1)) then (if 0 < ((rd_L5 x10 (wrap64 ((x10.length : Int) - 1))).length : Int) then (spec_FreeDays.l0 k x0 x1 x3 (x10.set ((wrap64 ((x10.length : Int) - 1)) : Int).toNat (([rd (rd_L5 x10 (wrap64 ((x10.length : Int) - 1))) 0, x11] : List Int))) (wrap64 (x11 + 1))) else (none)) else (if x10.length < 5864062014805 then (spec_FreeDays.l0 k x0 x1 x3 (x10 ++ [(([x11, x11] : List Int))]) (wrap64 (x11 + 1))) else (none))) else (none)) else (none)) else (none)) else (if x10.length < 5864062014805 then (spec_FreeDays.l0 k x0 x1 x3 (x10 ++ [(([x11, x11] : List Int))]) (wrap64 (x11 + 1))) else (none))))) else (some (x10, true))
end
def spec_FreeDays.f (k : Nat) (l0 : List (S26)) (a1 : ByteArray) (a2 a3 : Int) : Option ((List (List Int)) × Bool) := (some (([] : List (List Int)) : List (List Int))).bind fun y249 => ((spec_l22Good.f k l0).bind fun t252 => (if t252 = true then ((spec_l2Word.f k a1).bind fun t253 => (if t253 = true then ((spec_l22Day.f a2).bind fun t254 => (if t254 = true then ((spec_l1In.f a3 a2 999).bind fun t255 => (spec_FreeDays.j0 k l0 a1 a2 a3 y249 (!t255))) else (spec_FreeDays.j0 k l0 a1 a2 a3 y249 true))) else (spec_FreeDays.j0 k l0 a1 a2 a3 y249 true))) else (spec_FreeDays.j0 k l0 a1 a2 a3 y249 true)))
theorem spec_FreeDays.mono_l : ∀ k, (∀ y0 y1 y2 y3 y4 y5, LeO (spec_FreeDays.j0 k y0 y1 y2 y3 y4 y5) (spec_FreeDays.j0 (k + 1) y0 y1 y2 y3 y4 y5)) ∧ (∀ y0 y1 y2 y3 y4, LeO (spec_FreeDays.l0 k y0 y1 y2 y3 y4) (spec_FreeDays.l0 (k + 1) y0 y1 y2 y3 y4))
 | 0 => ⟨fun _ _ _ _ _ _ r h => by simp [spec_FreeDays.j0] at h, fun _ _ _ _ _ r h => by simp [spec_FreeDays.l0] at h⟩
 | k + 1 => by
  obtain ⟨ih0, ih1⟩ := spec_FreeDays.mono_l k
  refine ⟨?_, ?_⟩
  ·intro y0 y1 y2 y3 y4 y5
   unfold spec_FreeDays.j0
   repeat' with_reducible first | apply ih0 | apply ih1 | apply spec_l22Good.mono | apply spec_l22On.mono | apply spec_l2Word.mono | exact LeO.refl _ | exact LeO.none _ | refine LeO.ite ?_ ?_ | refine LeO.bind ?_ (fun _ => ?_)
  ·intro y0 y1 y2 y3 y4
   unfold spec_FreeDays.l0
   repeat' with_reducible first | apply ih0 | apply ih1 | apply spec_l22Good.mono | apply spec_l22On.mono | apply spec_l2Word.mono | exact LeO.refl _ | exact LeO.none _ | refine LeO.ite ?_ ?_ | refine LeO.bind ?_ (fun _ => ?_)
theorem spec_FreeDays.mono : ∀ a0 a1 a2 a3 k, LeO (spec_FreeDays.f k a0 a1 a2 a3) (spec_FreeDays.f (k + 1) a0 a1 a2 a3) := by
 intro a0 a1 a2 a3 k
 obtain ⟨ih0, ih1⟩ := spec_FreeDays.mono_l k
 unfold spec_FreeDays.f
 repeat' with_reducible first | apply ih0 | apply ih1 | apply spec_l22Good.mono | apply spec_l22On.mono | apply spec_l2Word.mono | exact LeO.refl _ | exact LeO.none _ | refine LeO.ite ?_ ?_ | refine LeO.bind ?_ (fun _ => ?_)
set_option maxHeartbeats 8000000 in
set_option maxRecDepth 100000 in
theorem spec_FreeDays.calls (k : Nat) (A0 : Option Addr) (c0 : Nat) (l0 : List (S26)) (a1 : ByteArray) (a2 a3 : Int) (r1 : List (List Int)) (r2 : Bool) (w : World) (hr0 : Kd.C k26 w A0 l0.length l0) (hc0 : l0.length ≤ c0) (h : spec_FreeDays.f k l0 a1 a2 a3 = some (r1, r2)) :
  Calls Tryd.prog 37 #[.slice A0 l0.length c0, .string a1, .int .i64 a2, .int .i64 a3] w fun e w' => ∃ v0_ : Value, e = .returned (.tuple #[v0_, .bool r2]) ∧ Kd.S (Kd.slice 3 (Kd.int .i64)) 68 w' w.heap.size (fun _ => True) v0_ r1 ∧ Below w.heap.size w w' := by
 have HR0 := Aside0.mk hr0
 have HC0 := Aside0.mk hc0
 clear hr0 hc0
 have HB := Aside0.mk (Below.refl w.heap.size w)
 have H := h
 clear h
 unfold spec_FreeDays.f at H
 obtain ⟨y249, hy249⟩ : ∃ y_ : List (List Int), y_ = (([] : List (List Int))) := ⟨_, rfl⟩
 replace H : ((spec_l22Good.f k l0).bind fun t252 => (if t252 = true then ((spec_l2Word.f k a1).bind fun t253 => (if t253 = true then ((spec_l22Day.f a2).bind fun t254 => (if t254 = true then ((spec_l1In.f a3 a2 999).bind fun t255 => (spec_FreeDays.j0 k l0 a1 a2 a3 y249 (!t255))) else (spec_FreeDays.j0 k l0 a1 a2 a3 y249 true))) else (spec_FreeDays.j0 k l0 a1 a2 a3 y249 true))) else (spec_FreeDays.j0 k l0 a1 a2 a3 y249 true))) = some (r1, r2) := by first | (rw [hy249]; with_reducible exact H) | (have H2_ := (Option.bind_some _ _).symm.trans H; rw [hy249]; with_reducible exact H2_) | (have H2_ := (Option.bind_some _ _).symm.trans H; with_reducible exact H2_) | with_reducible exact H | (rw [hy249]; exact H) | exact H
 have Ny249 := Aside0.mk hy249
 clear hy249
 have HC5 := Aside0.mk H
 clear H
 go_enter Tryd.func37, Tryd.ntmps37
 go_upto_region 2 with (first | ((with_reducible refine gate_dst (N := 13) rfl ?_); refine Kd.S_lit (Kd.slice 3 (Kd.int .i64)) _ 68 ?hg (N := 13) ?hd (xs := ([] : List (List Int))) (inner := []) (ok := fun _ => True) (okp := fun _ => True) ?hr ?hp (fun _ hk => hk) trivial (Below.refl _ _) (Nat.le_refl _) (by simp) ?_; (case hd => rfl); (case hg => rfl); (case hr => first | (go_simp; done) | (go_simp; rfl)); (case hp => exact (Reps.none _ _)); intro v250 w6 ho7 hb hg_ hnew_; clear hg_ hnew_; (first | rw [← Ny249.out] at ho7 | (simp only [Int.reduceToNat] at ho7; rw [← Ny249.out] at ho7)); have HO251 := Aside0.mk (Kd.S_lower ho7 (below_size (bW HB))); replace HB := uB HB hb; clear hb ho7))
 (try simp only [Act.put, List.setIfInBounds_toArray, List.set_cons_zero, List.set_cons_succ])
 go_cut [32] (fun v32 wc => ∃ (kq : Nat) (x32_4 : Bool), v32 = .bool x32_4 ∧ Aside0 (spec_FreeDays.j0 kq l0 a1 a2 a3 y249 x32_4 = some (r1, r2)) ∧ Aside0 (kq ≤ k) ∧ Aside0 (Kd.S (Kd.slice 3 (Kd.int .i64)) 68 wc w.heap.size (fun _ => True) v250 y249) ∧ Aside0 (Below w.heap.size w wc))
 case first =>
  have H := HC5.out
  clear HC5
  replace H := bA H
  obtain ⟨t252, A8, H⟩ := H
  rcases Bool.eq_false_or_eq_true t252 with rfl | rfl
  ·replace H := iT rfl H
   replace H := bA H
   obtain ⟨t253, A10, H⟩ := H
   rcases Bool.eq_false_or_eq_true t253 with rfl | rfl
   ·replace H := iT rfl H
    replace H := bA H
    obtain ⟨t254, A12, H⟩ := H
    rcases Bool.eq_false_or_eq_true t254 with rfl | rfl
    ·replace H := iT rfl H
     replace H := bA H
     obtain ⟨t255, A14, H⟩ := H
     have H' := Aside0.mk H
     clear H
     go_wp2_with (first | ((with_reducible refine gC 58 ?_); refine lA (some 15) Tryd.func58 (spec_l22Good.calls k _ _ l0 true _ ?side1 ?side2 A8.out) ?_; (case side1 => repeat (first | exact (Kd.C_below HR0.out HB.out) | (with_reducible refine Kd.C_alloc ?_ _) | (with_reducible refine Kd.C_drewN ?_ _) | (with_reducible refine Kd.C_drew ?_))); (case side2 => exact HC0.out); intro w15 hb; replace HO251 := Aside0.mk (Kd.S_below (by (with_reducible repeat (first | apply Kd.S_alloc | apply Kd.S_drewN | apply Kd.S_drew)); exact HO251.out) hb); replace HB := uB HB hb; (try clear hb); (try clear hk)) | (go_at_call 66; (with_reducible refine (spec_l2Word.calls k a1 true _ A10.out).mono ?_); rintro e w' ⟨rfl, ⟨nd, rfl⟩⟩) | (go_at_call 63; (with_reducible refine (spec_l22Day.calls a2 true _ A12.out).mono ?_); rintro e w' ⟨rfl, ⟨nd, rfl⟩⟩) | (go_at_call 67; (with_reducible refine (spec_l1In.calls a3 a2 999 t255 _ A14.out).mono ?_); rintro e w' ⟨rfl, ⟨nd, rfl⟩⟩))
     go_meet
     case rel => exact ⟨_, (!t255), rB, H', leB, ⟨by (with_reducible repeat (first | apply Kd.S_alloc | apply Kd.S_drewN | apply Kd.S_drew)); exact HO251.out⟩, (aB HB)⟩
    ·replace H := iF (by decide) H
     have H' := Aside0.mk H
     clear H
     go_wp2_with (first | ((with_reducible refine gC 58 ?_); refine lA (some 15) Tryd.func58 (spec_l22Good.calls k _ _ l0 true _ ?side1 ?side2 A8.out) ?_; (case side1 => repeat (first | exact (Kd.C_below HR0.out HB.out) | (with_reducible refine Kd.C_alloc ?_ _) | (with_reducible refine Kd.C_drewN ?_ _) | (with_reducible refine Kd.C_drew ?_))); (case side2 => exact HC0.out); intro w16 hb; replace HO251 := Aside0.mk (Kd.S_below (by (with_reducible repeat (first | apply Kd.S_alloc | apply Kd.S_drewN | apply Kd.S_drew)); exact HO251.out) hb); replace HB := uB HB hb; (try clear hb); (try clear hk)) | (go_at_call 66; (with_reducible refine (spec_l2Word.calls k a1 true _ A10.out).mono ?_); rintro e w' ⟨rfl, ⟨nd, rfl⟩⟩) | (go_at_call 63; (with_reducible refine (spec_l22Day.calls a2 false _ A12.out).mono ?_); rintro e w' ⟨rfl, ⟨nd, rfl⟩⟩))
     go_meet
     case rel => exact ⟨_, (true), rB, H', leB, ⟨by (with_reducible repeat (first | apply Kd.S_alloc | apply Kd.S_drewN | apply Kd.S_drew)); exact HO251.out⟩, (aB HB)⟩
   ·replace H := iF (by decide) H
    have H' := Aside0.mk H
    clear H
    go_wp2_with (first | ((with_reducible refine gC 58 ?_); refine lA (some 15) Tryd.func58 (spec_l22Good.calls k _ _ l0 true _ ?side1 ?side2 A8.out) ?_; (case side1 => repeat (first | exact (Kd.C_below HR0.out HB.out) | (with_reducible refine Kd.C_alloc ?_ _) | (with_reducible refine Kd.C_drewN ?_ _) | (with_reducible refine Kd.C_drew ?_))); (case side2 => exact HC0.out); intro w17 hb; replace HO251 := Aside0.mk (Kd.S_below (by (with_reducible repeat (first | apply Kd.S_alloc | apply Kd.S_drewN | apply Kd.S_drew)); exact HO251.out) hb); replace HB := uB HB hb; (try clear hb); (try clear hk)) | (go_at_call 66; (with_reducible refine (spec_l2Word.calls k a1 false _ A10.out).mono ?_); rintro e w' ⟨rfl, ⟨nd, rfl⟩⟩))
    go_meet
    case rel => exact ⟨_, (true), rB, H', leB, ⟨by (with_reducible repeat (first | apply Kd.S_alloc | apply Kd.S_drewN | apply Kd.S_drew)); exact HO251.out⟩, (aB HB)⟩
  ·replace H := iF (by decide) H
   have H' := Aside0.mk H
   clear H
   go_wp2_with (first | ((with_reducible refine gC 58 ?_); refine lA (some 15) Tryd.func58 (spec_l22Good.calls k _ _ l0 false _ ?side1 ?side2 A8.out) ?_; (case side1 => repeat (first | exact (Kd.C_below HR0.out HB.out) | (with_reducible refine Kd.C_alloc ?_ _) | (with_reducible refine Kd.C_drewN ?_ _) | (with_reducible refine Kd.C_drew ?_))); (case side2 => exact HC0.out); intro w18 hb; replace HO251 := Aside0.mk (Kd.S_below (by (with_reducible repeat (first | apply Kd.S_alloc | apply Kd.S_drewN | apply Kd.S_drew)); exact HO251.out) hb); replace HB := uB HB hb; (try clear hb); (try clear hk)))
   go_meet
   case rel => exact ⟨_, (true), rB, H', leB, ⟨by (with_reducible repeat (first | apply Kd.S_alloc | apply Kd.S_drewN | apply Kd.S_drew)); exact HO251.out⟩, (aB HB)⟩
 case rest =>
  clear HC5
  obtain ⟨kq, x32_4, rfl, HA, HJ4, HO_10, HB⟩ := hcut
  cases kq with
  | zero => exact absurd HA.out (by simp [spec_FreeDays.j0])
  | succ kj4 =>
   have H := HA.out
   clear HA
   simp only [spec_FreeDays.j0] at H
   rcases Bool.eq_false_or_eq_true x32_4 with rfl | rfl
   ·replace H := iT rfl H
    simp only [Option.some.injEq, Prod.mk.injEq] at H
    obtain ⟨rfl, rfl⟩ := H
    go_wp2
    go_ret2
    exact ⟨_, eB, by (with_reducible repeat (first | apply Kd.S_alloc | apply Kd.S_drewN | apply Kd.S_drew)); exact HO_10.out, (bW HB)⟩
   ·replace H := iF (by decide) H
    have H' := Aside0.mk H
    clear H
    go_wp2
    go_loopg [10, 11] kj4 (fun kq v10 v11 w' => ∃ (x10_2 : List (List Int)) (x11_2 : Int), v11 = .int .i64 x11_2 ∧ Aside0 (spec_FreeDays.l0 kq l0 a1 a3 x10_2 x11_2 = some (r1, r2)) ∧ Aside0 (kq ≤ kj4) ∧ Aside0 (Kd.S (Kd.slice 3 (Kd.int .i64)) 68 w' w.heap.size (fun _ => True) v10 x10_2) ∧ Aside0 (Below w.heap.size w w'))
    case atStart => exact ⟨(y249), (a2), rB, H', ⟨Nat.le_refl _⟩, ⟨by (with_reducible repeat (first | apply Kd.S_alloc | apply Kd.S_drewN | apply Kd.S_drew)); exact HO_10.out⟩, (aB HB)⟩
    case round =>
     clear H'
     obtain ⟨x10_2, x11_2, rfl, HA, HK2, HO_10, HB⟩ := hrel
     cases gk with
     | zero => exact absurd HA.out (by simp [spec_FreeDays.l0])
     | succ k2 =>
      have H := HA.out
      clear HA
      simp only [spec_FreeDays.l0] at H
      replace H := ifD H
      rcases H with ⟨H, -, c20b0⟩ | ⟨H, -, c20b0⟩
      ·replace H := bA H
       obtain ⟨t256, A21, H⟩ := H
       replace H := ifD H
       rcases H with ⟨H, -, c22b0⟩ | ⟨H, -, c22b0⟩
       ·have H' := Aside0.mk H
        clear H
        go_wp2_with (first | ((with_reducible refine gC 64 ?_); refine lA (some 43) Tryd.func64 (spec_l22On.calls k2 _ _ l0 a1 x11_2 t256 _ ?side1 ?side2 A21.out) ?_; (case side1 => repeat (first | exact (Kd.C_below HR0.out HB.out) | (with_reducible refine Kd.C_alloc ?_ _) | (with_reducible refine Kd.C_drewN ?_ _) | (with_reducible refine Kd.C_drew ?_))); (case side2 => exact HC0.out); intro w23 hb; replace HO_10 := Aside0.mk (Kd.S_below (by (with_reducible repeat (first | apply Kd.S_alloc | apply Kd.S_drewN | apply Kd.S_drew)); exact HO_10.out) hb); replace HB := uB HB hb; (try clear hb); (try clear hk)))
        go_roundg k2
        case measure => have := HJ4.out; have := HK2.out; omega
        case rel => exact ⟨(x10_2), (wrap64 (x11_2 + 1)), rB, H', ⟨by have := HJ4.out; have := HK2.out; omega⟩, ⟨by (with_reducible repeat (first | apply Kd.S_alloc | apply Kd.S_drewN | apply Kd.S_drew)); exact HO_10.out⟩, (aB HB)⟩
       ·replace H := ifD H
        rcases H with ⟨H, c24, c24b0⟩ | ⟨H, c24, c24b0⟩
        ·have c24b1 : decide (0 < x10_2.length) = true := decide_eq_true (by omega)
         clear c24
         obtain ⟨ji25, hji25⟩ : ∃ j_ : Int, (wrap64 ((x10_2.length : Int) - 1)) = j_ := ⟨_, rfl⟩
         replace H : (if 0 ≤ (ji25) then (if (ji25) < (x10_2.length : Int) then (if 1 < ((rd_L5 x10_2 (ji25)).length : Int) then (if (rd (rd_L5 x10_2 (ji25)) 1) = (wrap64 (x11_2 - 1)) then (if 0 < ((rd_L5 x10_2 (ji25)).length : Int) then (spec_FreeDays.l0 k2 l0 a1 a3 (x10_2.set ((ji25) : Int).toNat (([rd (rd_L5 x10_2 (ji25)) 0, x11_2] : List Int))) (wrap64 (x11_2 + 1))) else (none)) else (if x10_2.length < 5864062014805 then (spec_FreeDays.l0 k2 l0 a1 a3 (x10_2 ++ [(([x11_2, x11_2] : List Int))]) (wrap64 (x11_2 + 1))) else (none))) else (none)) else (none)) else (none)) = some (r1, r2) := by first | (rw [hji25] at H; exact H) | (simp only [hji25] at H ⊢; exact H)
         (try rw [hji25] at A21)
         have hji25w : (IntKind.i64.wrap ((x10_2.length : Int) - 1)) = ji25 := (i64_w _).trans hji25
         by_cases c26 : 0 ≤ (ji25)
         ·rw [if_pos c26] at H
          have c26b0 : decide (0 ≤ (ji25)) = true := decide_eq_true c26
          clear c26
          by_cases c27 : (ji25) < (x10_2.length : Int)
          ·rw [if_pos c27] at H
           have c27b0 : decide ((ji25) < (x10_2.length : Int)) = true := decide_eq_true c27
           clear c27
           by_cases c28 : 1 < ((rd_L5 x10_2 (ji25)).length : Int)
           ·rw [if_pos c28] at H
            have c28b0 : decide (1 < ((rd_L5 x10_2 (ji25)).length : Int)) = true := decide_eq_true c28
            have c28b1 : decide (1 < (rd_L5 x10_2 (ji25)).length) = true := decide_eq_true (by omega)
            clear c28
            replace H := ifI H
            rcases H with ⟨H, -, c29b0, c29b1⟩ | ⟨H, c29, c29b0, c29b1⟩
            ·by_cases c30 : 0 < ((rd_L5 x10_2 (ji25)).length : Int)
             ·rw [if_pos c30] at H
              have c30b0 : decide (0 < ((rd_L5 x10_2 (ji25)).length : Int)) = true := decide_eq_true c30
              have c30b1 : decide (0 < (rd_L5 x10_2 (ji25)).length) = true := decide_eq_true (by omega)
              clear c30
              obtain ⟨y261, hy261⟩ : ∃ y_ : List Int, y_ = (([rd (rd_L5 x10_2 (ji25)) 0, x11_2] : List Int)) := ⟨_, rfl⟩
              replace H : (spec_FreeDays.l0 k2 l0 a1 a3 (x10_2.set ((ji25) : Int).toNat y261) (wrap64 (x11_2 + 1))) = some (r1, r2) := by first | (rw [hy261]; with_reducible exact H) | (have H2_ := (Option.bind_some _ _).symm.trans H; rw [hy261]; with_reducible exact H2_) | (have H2_ := (Option.bind_some _ _).symm.trans H; with_reducible exact H2_) | with_reducible exact H | (rw [hy261]; exact H) | exact H
              have Ny261 := Aside0.mk hy261
              clear hy261
              obtain ⟨y264, hy264⟩ : ∃ y_ : List (List Int), y_ = (x10_2.set ((ji25) : Int).toNat y261) := ⟨_, rfl⟩
              replace H : (spec_FreeDays.l0 k2 l0 a1 a3 y264 (wrap64 (x11_2 + 1))) = some (r1, r2) := by first | (rw [hy264]; with_reducible exact H) | (have H2_ := (Option.bind_some _ _).symm.trans H; rw [hy264]; with_reducible exact H2_) | (have H2_ := (Option.bind_some _ _).symm.trans H; with_reducible exact H2_) | with_reducible exact H | (rw [hy264]; exact H) | exact H
              have Ny264 := Aside0.mk hy264
              clear hy264
              have H' := Aside0.mk H
              clear H
              go_wp2_with (first | ((with_reducible refine gC 64 ?_); refine lA (some 43) Tryd.func64 (spec_l22On.calls k2 _ _ l0 a1 x11_2 t256 _ ?side1 ?side2 A21.out) ?_; (case side1 => repeat (first | exact (Kd.C_below HR0.out HB.out) | (with_reducible refine Kd.C_alloc ?_ _) | (with_reducible refine Kd.C_drewN ?_ _) | (with_reducible refine Kd.C_drew ?_))); (case side2 => exact HC0.out); intro w32 hb; replace HO_10 := Aside0.mk (Kd.S_below (by (with_reducible repeat (first | apply Kd.S_alloc | apply Kd.S_drewN | apply Kd.S_drew)); exact HO_10.out) hb); replace HB := uB HB hb; (try clear hb); (try clear hk); obtain ⟨Ao33, co33, eo33⟩ := Kd.S_slice HO_10.out; subst eo33; have p257 : 0 ≤ ((ji25) : Int) := of_decide_eq_true asmB; have q257 : (ji25) < (x10_2.length : Int) := of_decide_eq_true asmB; obtain ⟨ad257, A257_0, c257_0, e257, hx257_0, hl257_0, hi257_0⟩ := at_L5 (Kd.S_reads' HO_10.out).2.2 (ji25) p257 q257; cases e257; obtain ⟨ce257, hce257, hMe257, hcc257⟩ := Kd.S_get HO_10.out [] (ji25) p257 (by first | exact q257 | exact of_decide_eq_true asmB | (have e_ := (Kd.S_reads' HO_10.out).1; omega)); obtain ⟨ve257_0, rfl, ge257_0⟩ := hMe257; have hv257_0 := hcc257 0 _ rfl; rw [Nat.add_zero, show ((Kd.slice 3 (Kd.int .i64))).sz = 1 from rfl, Nat.mul_one] at hv257_0; replace hv257_0 := Option.some.inj (hv257_0.symm.trans hx257_0); rw [hv257_0] at ge257_0; have HL257_0 := Aside0.mk (show Kd.R (Kd.int .i64) 3 _ _ _ _ (rd_L5 x10_2 (ji25)) from ge257_0); clear hv257_0 ge257_0; clear hcc257 hce257; have HR257_0 := Aside0.mk hi257_0; have HC257_0 := Aside0.mk hl257_0; clear hi257_0 hl257_0; replace p257 := eq_true p257; replace q257 := eq_true q257; have p258 : 0 ≤ (1 : Int) := (by omega); have q258 : 1 < ((rd_L5 x10_2 (ji25)).length : Int) := of_decide_eq_true asmB; obtain ⟨ad258, e258, hx258_0⟩ := Kd.at_int (by repeat (first | (with_reducible exact HR257_0.out) | (with_reducible refine Kd.C_alloc ?_ _) | (with_reducible refine Kd.C_drewN ?_ _) | (with_reducible refine Kd.C_drew ?_) | exact HR257_0.out)) 1 p258 q258; cases e258; (try simp only [show (1 : Int).toNat = 1 from rfl, Nat.reduceMul, Nat.reduceEqDiff, Go.Addr.add, ↓reduceIte] at hx258_0); have qi258 : (1 < (rd_L5 x10_2 (ji25)).length) = True := eq_true (by omega); (try rw [show ((1 : Int)).toNat = 1 from rfl] at hx258_0); replace p258 := eq_true p258; replace q258 := eq_true q258; have p259 : 0 ≤ ((ji25) : Int) := of_decide_eq_true asmB; have q259 : (ji25) < (x10_2.length : Int) := of_decide_eq_true asmB; obtain ⟨ad259, A259_0, c259_0, e259, hx259_0, hl259_0, hi259_0⟩ := at_L5 (Kd.S_reads' HO_10.out).2.2 (ji25) p259 q259; obtain rfl : ad257 = ad259 := (by injection e259); obtain ⟨ce259, hce259, hMe259, hcc259⟩ := Kd.S_get HO_10.out [] (ji25) p259 (by first | exact q259 | exact of_decide_eq_true asmB | (have e_ := (Kd.S_reads' HO_10.out).1; omega)); obtain ⟨ve259_0, rfl, ge259_0⟩ := hMe259; have hv259_0 := hcc259 0 _ rfl; rw [Nat.add_zero, show ((Kd.slice 3 (Kd.int .i64))).sz = 1 from rfl, Nat.mul_one] at hv259_0; replace hv259_0 := Option.some.inj (hv259_0.symm.trans hx259_0); rw [hv259_0] at ge259_0; have HL259_0 := Aside0.mk (show Kd.R (Kd.int .i64) 3 _ _ _ _ (rd_L5 x10_2 (ji25)) from ge259_0); clear hv259_0 ge259_0; clear hcc259 hce259; have HR259_0 := Aside0.mk hi259_0; have HC259_0 := Aside0.mk hl259_0; clear hi259_0 hl259_0; replace p259 := eq_true p259; replace q259 := eq_true q259; have ea_ := Option.some.inj (hx257_0.symm.trans hx259_0); injection ea_ with ea_ en_ ec_; subst ea_; subst ec_; clear en_; have p260 : 0 ≤ (0 : Int) := (by omega); have q260 : 0 < ((rd_L5 x10_2 (ji25)).length : Int) := of_decide_eq_true asmB; obtain ⟨ad260, e260, hx260_0⟩ := Kd.at_int (by repeat (first | (with_reducible exact HR259_0.out) | (with_reducible refine Kd.C_alloc ?_ _) | (with_reducible refine Kd.C_drewN ?_ _) | (with_reducible refine Kd.C_drew ?_) | exact HR259_0.out)) 0 p260 q260; cases e260; have qi260 : (0 < (rd_L5 x10_2 (ji25)).length) = True := eq_true (by omega); (try rw [show ((0 : Int)).toNat = 0 from rfl] at hx260_0); (try rw [Addr.add_zero'] at hx260_0); replace p260 := eq_true p260; replace q260 := eq_true q260) | ((with_reducible refine gate_dst (N := 72) rfl ?_); refine Kd.R_lit (Kd.int .i64) _ 3 ?hg (N := 72) ?hd (xs := ([rd (rd_L5 x10_2 (ji25)) 0, x11_2] : List Int)) (inner := [.int .i64 (rd (rd_L5 x10_2 (ji25)) 0), .int .i64 x11_2]) (ok := fun _ => True) (okp := fun _ => True) ?hr ?hp (fun _ hk => hk) trivial (Below.refl _ _) (Nat.le_refl _) (by simp) ?_; (case hd => rfl); (case hg => rfl); (case hr => first | (go_simp; done) | (go_simp; rfl)); (case hp => exact (Reps.one (show Kd.M (Kd.int .i64) _ _ _ (rd (rd_L5 x10_2 (ji25)) 0) [.int .i64 (rd (rd_L5 x10_2 (ji25)) 0)] from rfl) (Reps.one (show Kd.M (Kd.int .i64) _ _ _ x11_2 [.int .i64 x11_2] from rfl) (Reps.none _ _)))); intro v262 w34 ho35 hb hg_ hnew_; clear hg_ hnew_; (first | rw [← Ny261.out] at ho35 | (simp only [Int.reduceToNat] at ho35; rw [← Ny261.out] at ho35)); have HO263 := Aside0.mk (Kd.R_lower (Kd.R_new' (Kd.R_new' ho35 (Kd.R_lt (upR HL257_0.out))) (Kd.R_lt (upR HL259_0.out))) (below_size (bW HB))); replace HO_10 := Aside0.mk (Kd.S_elder' (by (with_reducible repeat (first | apply Kd.S_alloc | apply Kd.S_drewN | apply Kd.S_drew)); exact HO_10.out) (Kd.R_base ho35) hb); replace HL257_0 := Aside0.mk (Kd.R_elder' (upR HL257_0.out) (Kd.R_base ho35) hb); replace HL259_0 := Aside0.mk (Kd.R_elder' (upR HL259_0.out) (Kd.R_base ho35) hb); replace HR257_0 := Aside0.mk (Kd.C_below (by repeat (first | (with_reducible exact HR257_0.out) | (with_reducible refine Kd.C_alloc ?_ _) | (with_reducible refine Kd.C_drewN ?_ _) | (with_reducible refine Kd.C_drew ?_) | exact HR257_0.out)) hb); replace HR259_0 := Aside0.mk (Kd.C_below (by repeat (first | (with_reducible exact HR259_0.out) | (with_reducible refine Kd.C_alloc ?_ _) | (with_reducible refine Kd.C_drewN ?_ _) | (with_reducible refine Kd.C_drew ?_) | exact HR259_0.out)) hb); replace HB := uB HB hb; clear hb ho35; have p31 : 0 ≤ ((ji25) : Int) := of_decide_eq_true asmB; have q31 : ((ji25) : Int) < ((x10_2.length : Int) : Int) := of_decide_eq_true asmB; obtain ⟨go31, co31, eo31, gb31, gl31, cl31, HG31⟩ := Kd.S_form HO_10.out (by omega); (first | cases eo31 | (injection eo31 with ea_ en_ ec_; (first | subst ea_ | (injection ea_ with ea_; subst ea_)); subst ec_; clear en_)); have GB31 := Aside0.mk gb31; have GG31 := Aside0.mk HG31; clear gb31 gl31 HG31; (first | simp only [add_plain] at hx257_0 | skip); (first | simp only [add_plain] at hx259_0 | skip); obtain ⟨_, ce31, hcl31, hM31, hcc31, hfr31, _, _⟩ := Kd.S_elem HO_10.out [] ((ji25) : Int) p31 q31; obtain ⟨ve31_0, rfl, ge31_0⟩ := hM31; have hx31_0 := hcc31 0 _ rfl; have hf31_0 := hfr31 0; (try simp only [show ((Kd.slice 3 (Kd.int .i64))).sz = 1 from rfl, Nat.mul_one, Nat.add_zero] at hx31_0); (try simp only [show ((Kd.slice 3 (Kd.int .i64))).sz = 1 from rfl, Nat.mul_one, Nat.add_zero] at hf31_0); clear hcl31 hcc31 hfr31; (try clear hM31); replace p31 := eq_true p31; replace q31 := eq_true q31; have n_ := Aside0.mk (Kd.S_mono (ok' := (fun k_ => some k_ ≠ (v262 : Value).ownBlock)) HO_10.out (fun k_ hk => hk.2)); clear HO_10; have HO_10 := n_; clear n_; have HX36 := Aside0.mk (show Kd.S (Kd.slice 3 (Kd.int .i64)) 68 w34 w.heap.size (fun k_ => ((fun _ => True)) k_ ∧ ¬ ((fun k_ => some k_ = (v262 : Value).ownBlock)) k_) (.slice (some ⟨go31, 0, none⟩) x10_2.length co33) x10_2 from (by (with_reducible repeat (first | apply Kd.S_alloc | apply Kd.S_drewN | apply Kd.S_drew)); exact Kd.S_mono HO_10.out (fun k_ hk => ⟨trivial, fun e_ => hk e_⟩))); obtain ⟨oki36, ce36, hcl36, hM36, hcc36, hfr36, hoki36, hH36⟩ := Kd.S_elem HX36.out [] ((ji25) : Int) (of_decide_eq_true asmB) (by have h_ : ((ji25) : Int) < ((x10_2.length : Int) : Int) := of_decide_eq_true asmB; first | exact h_ | (have e_ := (Kd.S_reads' HO_10.out).1; omega) | simpa using h_); obtain ⟨ve36_0, rfl, ge36_0⟩ := hM36; have HP36 := Kd.S_seg hH36 (of_decide_eq_true asmB) (by have h_ : ((ji25) : Int) < ((x10_2.length : Int) : Int) := of_decide_eq_true asmB; first | exact h_ | (have e_ := (Kd.S_reads' HO_10.out).1; omega) | simpa using h_) (seg := [v262]) (j := 0) (show 1 ≤ 1 from by decide) (x' := y261) (Kd.M_row (Kd.R_mono (Kd.R_tight rfl (Kd.R_mono (ok' := fun k_ => ((fun _ => True)) k_ ∧ k_ ≠ go31) (Kd.R_apart' (HO263.out) (Kd.S_typed HO_10.out) (by decide)) (fun k_ hk => ⟨trivial, fun e_ => (hk.2) (by rw [e_]; rfl)⟩))) (fun _ h_ => Or.inr (h_)))) (fun _ hk => hk) (fun k_ hk_ => ((Kd.R_mono (ok' := fun k_ => ((fun _ => True)) k_ ∧ k_ ≠ go31) (Kd.R_apart' (HO263.out) (Kd.S_typed HO_10.out) (by decide)) (fun k_ hk => ⟨trivial, fun e_ => (hk.2) (by rw [e_]; rfl)⟩))).1 k_ hk_.symm); have hx36_0 := hcc36 0 _ rfl; (try simp only [show ((Kd.slice 3 (Kd.int .i64))).sz = 1 from rfl, Nat.mul_one, Nat.add_zero] at hx36_0); have hf36_0 := hfr36 0; (try simp only [show ((Kd.slice 3 (Kd.int .i64))).sz = 1 from rfl, Nat.mul_one, Nat.add_zero] at hf36_0); clear hcl36 hcc36 hfr36 hoki36 hH36; (try clear hM36); (try simp only [show ((Kd.slice 3 (Kd.int .i64))).sz = 1 from rfl, Nat.mul_one, Nat.add_zero] at HP36)) | ((with_reducible refine gate_store (t := 68) (p := 73) rfl ?_); refine store_event (t := 68) (p := 73) (v := ?vo_w37) (w1 := (w34.setCell ⟨go31, ((ji25) : Int).toNat, none⟩ (v262))) ?hg ?ho ?hn ?hr ?_; (case ho => rfl); (case hg => rfl); (case hn => rfl); (case hr => (obtain ⟨Ao_, co_, eo_⟩ := Kd.R_slice HO263.out); subst eo_; first | (go_simp; done) | (go_simp; rfl)); intro w37 hw; have hg : w34.grownBy w37 (some go31) := (by rw [hw]; exact HP36.2); have hp_ : Kd.S (Kd.slice 3 (Kd.int .i64)) 68 w37 w.heap.size (fun _ => True) (.slice (some ⟨go31, 0, none⟩) x10_2.length co33) y264 := (by rw [hw, Ny264.out]; exact HP36.1); clear HP36; replace HO_10 := Aside0.mk (hp_); replace HL257_0 := Aside0.mk (Kd.R_after (v := (.slice (some ⟨go31, 0, none⟩) x10_2.length co33)) (v1 := (.slice (some ⟨go31, 0, none⟩) x10_2.length co33)) (ok := (fun k_ => some k_ ≠ (v262 : Value).ownBlock)) (by (with_reducible repeat (first | apply Kd.R_alloc | apply Kd.R_drewN | apply Kd.R_drew)); exact Kd.R_mono HL257_0.out (fun _ hk => ⟨hk.2, hk.1.2⟩)) hg (.inl rfl)); replace HL259_0 := Aside0.mk (Kd.R_after (v := (.slice (some ⟨go31, 0, none⟩) x10_2.length co33)) (v1 := (.slice (some ⟨go31, 0, none⟩) x10_2.length co33)) (ok := (fun k_ => some k_ ≠ (v262 : Value).ownBlock)) (by (with_reducible repeat (first | apply Kd.R_alloc | apply Kd.R_drewN | apply Kd.R_drew)); exact Kd.R_mono HL259_0.out (fun _ hk => ⟨hk.2, hk.1.2⟩)) hg (.inl rfl)); replace HB := Aside0.mk ((by rw [hw]; exact below_set (HB.out) GB31.out : Below w.heap.size w w37)); clear HO263; clear hg hw hp_))
              go_roundg k2
              case measure => have := HJ4.out; have := HK2.out; omega
              case rel => exact ⟨(y264), (wrap64 (x11_2 + 1)), rB, H', ⟨by have := HJ4.out; have := HK2.out; omega⟩, ⟨by (with_reducible repeat (first | apply Kd.S_alloc | apply Kd.S_drewN | apply Kd.S_drew)); exact HO_10.out⟩, (aB HB)⟩
             ·rw [if_neg c30] at H
              exact absurd H (by simp)
            ·obtain ⟨y265, hy265⟩ : ∃ y_ : List Int, y_ = (([x11_2, x11_2] : List Int)) := ⟨_, rfl⟩
             replace H : (if x10_2.length < 5864062014805 then (spec_FreeDays.l0 k2 l0 a1 a3 (x10_2 ++ [y265]) (wrap64 (x11_2 + 1))) else (none)) = some (r1, r2) := by first | (rw [hy265]; with_reducible exact H) | (have H2_ := (Option.bind_some _ _).symm.trans H; rw [hy265]; with_reducible exact H2_) | (have H2_ := (Option.bind_some _ _).symm.trans H; with_reducible exact H2_) | with_reducible exact H | (rw [hy265]; exact H) | exact H
             have Ny265 := Aside0.mk hy265
             clear hy265
             by_cases c38 : x10_2.length < 5864062014805
             ·rw [if_pos c38] at H
              have LMc38 := Aside0.mk c38
              clear c38
              obtain ⟨y268, hy268⟩ : ∃ y_ : List (List Int), y_ = (x10_2 ++ [y265]) := ⟨_, rfl⟩
              replace H : (spec_FreeDays.l0 k2 l0 a1 a3 y268 (wrap64 (x11_2 + 1))) = some (r1, r2) := by first | (rw [hy268]; with_reducible exact H) | (have H2_ := (Option.bind_some _ _).symm.trans H; rw [hy268]; with_reducible exact H2_) | (have H2_ := (Option.bind_some _ _).symm.trans H; with_reducible exact H2_) | with_reducible exact H | (rw [hy268]; exact H) | exact H
              have Ny268 := Aside0.mk hy268
              clear hy268
              have H' := Aside0.mk H
              clear H
              go_wp2_with (first | ((with_reducible refine gC 64 ?_); refine lA (some 43) Tryd.func64 (spec_l22On.calls k2 _ _ l0 a1 x11_2 t256 _ ?side1 ?side2 A21.out) ?_; (case side1 => repeat (first | exact (Kd.C_below HR0.out HB.out) | (with_reducible refine Kd.C_alloc ?_ _) | (with_reducible refine Kd.C_drewN ?_ _) | (with_reducible refine Kd.C_drew ?_))); (case side2 => exact HC0.out); intro w39 hb; replace HO_10 := Aside0.mk (Kd.S_below (by (with_reducible repeat (first | apply Kd.S_alloc | apply Kd.S_drewN | apply Kd.S_drew)); exact HO_10.out) hb); replace HB := uB HB hb; (try clear hb); (try clear hk); obtain ⟨Ao40, co40, eo40⟩ := Kd.S_slice HO_10.out; subst eo40; have p257 : 0 ≤ ((ji25) : Int) := of_decide_eq_true asmB; have q257 : (ji25) < (x10_2.length : Int) := of_decide_eq_true asmB; obtain ⟨ad257, A257_0, c257_0, e257, hx257_0, hl257_0, hi257_0⟩ := at_L5 (Kd.S_reads' HO_10.out).2.2 (ji25) p257 q257; cases e257; obtain ⟨ce257, hce257, hMe257, hcc257⟩ := Kd.S_get HO_10.out [] (ji25) p257 (by first | exact q257 | exact of_decide_eq_true asmB | (have e_ := (Kd.S_reads' HO_10.out).1; omega)); obtain ⟨ve257_0, rfl, ge257_0⟩ := hMe257; have hv257_0 := hcc257 0 _ rfl; rw [Nat.add_zero, show ((Kd.slice 3 (Kd.int .i64))).sz = 1 from rfl, Nat.mul_one] at hv257_0; replace hv257_0 := Option.some.inj (hv257_0.symm.trans hx257_0); rw [hv257_0] at ge257_0; have HL257_0 := Aside0.mk (show Kd.R (Kd.int .i64) 3 _ _ _ _ (rd_L5 x10_2 (ji25)) from ge257_0); clear hv257_0 ge257_0; clear hcc257 hce257; have HR257_0 := Aside0.mk hi257_0; have HC257_0 := Aside0.mk hl257_0; clear hi257_0 hl257_0; replace p257 := eq_true p257; replace q257 := eq_true q257; have p258 : 0 ≤ (1 : Int) := (by omega); have q258 : 1 < ((rd_L5 x10_2 (ji25)).length : Int) := of_decide_eq_true asmB; obtain ⟨ad258, e258, hx258_0⟩ := Kd.at_int (by repeat (first | (with_reducible exact HR257_0.out) | (with_reducible refine Kd.C_alloc ?_ _) | (with_reducible refine Kd.C_drewN ?_ _) | (with_reducible refine Kd.C_drew ?_) | exact HR257_0.out)) 1 p258 q258; cases e258; (try simp only [show (1 : Int).toNat = 1 from rfl, Nat.reduceMul, Nat.reduceEqDiff, Go.Addr.add, ↓reduceIte] at hx258_0); have qi258 : (1 < (rd_L5 x10_2 (ji25)).length) = True := eq_true (by omega); (try rw [show ((1 : Int)).toNat = 1 from rfl] at hx258_0); replace p258 := eq_true p258; replace q258 := eq_true q258) | ((with_reducible refine gate_dst (N := 77) rfl ?_); refine Kd.R_lit (Kd.int .i64) _ 3 ?hg (N := 77) ?hd (xs := ([x11_2, x11_2] : List Int)) (inner := [.int .i64 x11_2, .int .i64 x11_2]) (ok := fun _ => True) (okp := fun _ => True) ?hr ?hp (fun _ hk => hk) trivial (Below.refl _ _) (Nat.le_refl _) (by simp) ?_; (case hd => rfl); (case hg => rfl); (case hr => first | (go_simp; done) | (go_simp; rfl)); (case hp => exact (Reps.one (show Kd.M (Kd.int .i64) _ _ _ x11_2 [.int .i64 x11_2] from rfl) (Reps.one (show Kd.M (Kd.int .i64) _ _ _ x11_2 [.int .i64 x11_2] from rfl) (Reps.none _ _)))); intro v266 w41 ho42 hb hg_ hnew_; clear hg_ hnew_; (first | rw [← Ny265.out] at ho42 | (simp only [Int.reduceToNat] at ho42; rw [← Ny265.out] at ho42)); have HO267 := Aside0.mk (Kd.R_lower (Kd.R_new' ho42 (Kd.R_lt (upR HL257_0.out))) (below_size (bW HB))); replace HO_10 := Aside0.mk (Kd.S_elder' (by (with_reducible repeat (first | apply Kd.S_alloc | apply Kd.S_drewN | apply Kd.S_drew)); exact HO_10.out) (Kd.R_base ho42) hb); replace HL257_0 := Aside0.mk (Kd.R_elder' (upR HL257_0.out) (Kd.R_base ho42) hb); replace HR257_0 := Aside0.mk (Kd.C_below (by repeat (first | (with_reducible exact HR257_0.out) | (with_reducible refine Kd.C_alloc ?_ _) | (with_reducible refine Kd.C_drewN ?_ _) | (with_reducible refine Kd.C_drew ?_) | exact HR257_0.out)) hb); replace HB := uB HB hb; clear hb ho42; obtain ⟨Ao44, co44, eo44⟩ := Kd.R_slice HO267.out; subst eo44) | ((with_reducible refine gate_builtin (b := .append) (xs := #[.tmp 74, .tmp 78]) rfl ?_); at_builtin; refine Kd.S_append (Kd.slice 3 (Kd.int .i64)) (w0 := w) w.heap.size rfl (.tmp 74) (.tmp 78) 52 68 (.slice none 0 0) 24 rfl Tryd.underlying52 info68 rfl (by decide) (by omega) (.slice (some ad257) x10_2.length co40) x10_2 y265 [.slice Ao44 y265.length co44] (fun _ => True) (fun k_ => some k_ = (.slice Ao44 y265.length co44 : Value).ownBlock) rfl rfl ?aP (fun k_ hk_ => ((Kd.R_mono (ok' := fun k_ => ((fun _ => True)) k_ ∧ some k_ ≠ (.slice (some ad257) x10_2.length co40 : Value).ownBlock) (Kd.R_apart' (HO267.out) (Kd.S_typed HO_10.out) (by decide)) (fun k_ hk => ⟨trivial, hk.2⟩))).1 k_ hk_.symm) ?aF ?aO ?aB ?aS ?aL ?_; (case aP => exact Kd.M_row (Kd.R_mono (Kd.R_tight rfl (Kd.R_mono (ok' := fun k_ => ((fun _ => True)) k_ ∧ some k_ ≠ (.slice (some ad257) x10_2.length co40 : Value).ownBlock) (Kd.R_apart' (HO267.out) (Kd.S_typed HO_10.out) (by decide)) (fun k_ hk => ⟨trivial, hk.2⟩))) (fun _ h_ => h_))); (case aB => exact (bW HB)); (case aF => exact (fun _ _ => trivial)); (case aO => exact (by (with_reducible repeat (first | apply Kd.S_alloc | apply Kd.S_drewN | apply Kd.S_drew)); exact Kd.S_mono HO_10.out (fun k_ hk => ⟨trivial, fun e_ => hk.2 e_⟩))); (case aS => exact (below_size (bW HB))); (case aL => have := LMc38.out; omega); intro v269 w43 ho hb hg hat; rw [← Ny268.out] at ho; have HO270 := Aside0.mk (ho); replace HL257_0 := Aside0.mk (Kd.R_after (ok := (fun k_ => some k_ ≠ (.slice Ao44 y265.length co44 : Value).ownBlock)) (by (with_reducible repeat (first | apply Kd.R_alloc | apply Kd.R_drewN | apply Kd.R_drew)); exact Kd.R_mono HL257_0.out (fun _ hk => ⟨hk.2, hk.1.2⟩)) hg hat); replace HB := Aside0.mk (hb); clear HO_10 HO267; clear ho hb hg hat))
              go_roundg k2
              case measure => have := HJ4.out; have := HK2.out; omega
              case rel => exact ⟨(y268), (wrap64 (x11_2 + 1)), rB, H', ⟨by have := HJ4.out; have := HK2.out; omega⟩, ⟨by (with_reducible repeat (first | apply Kd.S_alloc | apply Kd.S_drewN | apply Kd.S_drew)); exact HO270.out⟩, (aB HB)⟩
             ·rw [if_neg c38] at H
              exact absurd H (by simp)
           ·rw [if_neg c28] at H
            exact absurd H (by simp)
          ·rw [if_neg c27] at H
           exact absurd H (by simp)
         ·rw [if_neg c26] at H
          exact absurd H (by simp)
        ·have c24b1 : decide (0 < x10_2.length) = false := decide_eq_false (by omega)
         clear c24
         obtain ⟨y271, hy271⟩ : ∃ y_ : List Int, y_ = (([x11_2, x11_2] : List Int)) := ⟨_, rfl⟩
         replace H : (if x10_2.length < 5864062014805 then (spec_FreeDays.l0 k2 l0 a1 a3 (x10_2 ++ [y271]) (wrap64 (x11_2 + 1))) else (none)) = some (r1, r2) := by first | (rw [hy271]; with_reducible exact H) | (have H2_ := (Option.bind_some _ _).symm.trans H; rw [hy271]; with_reducible exact H2_) | (have H2_ := (Option.bind_some _ _).symm.trans H; with_reducible exact H2_) | with_reducible exact H | (rw [hy271]; exact H) | exact H
         have Ny271 := Aside0.mk hy271
         clear hy271
         by_cases c45 : x10_2.length < 5864062014805
         ·rw [if_pos c45] at H
          have LMc45 := Aside0.mk c45
          clear c45
          obtain ⟨y274, hy274⟩ : ∃ y_ : List (List Int), y_ = (x10_2 ++ [y271]) := ⟨_, rfl⟩
          replace H : (spec_FreeDays.l0 k2 l0 a1 a3 y274 (wrap64 (x11_2 + 1))) = some (r1, r2) := by first | (rw [hy274]; with_reducible exact H) | (have H2_ := (Option.bind_some _ _).symm.trans H; rw [hy274]; with_reducible exact H2_) | (have H2_ := (Option.bind_some _ _).symm.trans H; with_reducible exact H2_) | with_reducible exact H | (rw [hy274]; exact H) | exact H
          have Ny274 := Aside0.mk hy274
          clear hy274
          have H' := Aside0.mk H
          clear H
          go_wp2_with (first | ((with_reducible refine gC 64 ?_); refine lA (some 43) Tryd.func64 (spec_l22On.calls k2 _ _ l0 a1 x11_2 t256 _ ?side1 ?side2 A21.out) ?_; (case side1 => repeat (first | exact (Kd.C_below HR0.out HB.out) | (with_reducible refine Kd.C_alloc ?_ _) | (with_reducible refine Kd.C_drewN ?_ _) | (with_reducible refine Kd.C_drew ?_))); (case side2 => exact HC0.out); intro w46 hb; replace HO_10 := Aside0.mk (Kd.S_below (by (with_reducible repeat (first | apply Kd.S_alloc | apply Kd.S_drewN | apply Kd.S_drew)); exact HO_10.out) hb); replace HB := uB HB hb; (try clear hb); (try clear hk); obtain ⟨Ao47, co47, eo47⟩ := Kd.S_slice HO_10.out; subst eo47) | ((with_reducible refine gate_dst (N := 77) rfl ?_); refine Kd.R_lit (Kd.int .i64) _ 3 ?hg (N := 77) ?hd (xs := ([x11_2, x11_2] : List Int)) (inner := [.int .i64 x11_2, .int .i64 x11_2]) (ok := fun _ => True) (okp := fun _ => True) ?hr ?hp (fun _ hk => hk) trivial (Below.refl _ _) (Nat.le_refl _) (by simp) ?_; (case hd => rfl); (case hg => rfl); (case hr => first | (go_simp; done) | (go_simp; rfl)); (case hp => exact (Reps.one (show Kd.M (Kd.int .i64) _ _ _ x11_2 [.int .i64 x11_2] from rfl) (Reps.one (show Kd.M (Kd.int .i64) _ _ _ x11_2 [.int .i64 x11_2] from rfl) (Reps.none _ _)))); intro v272 w48 ho49 hb hg_ hnew_; clear hg_ hnew_; (first | rw [← Ny271.out] at ho49 | (simp only [Int.reduceToNat] at ho49; rw [← Ny271.out] at ho49)); have HO273 := Aside0.mk (Kd.R_lower ho49 (below_size (bW HB))); replace HO_10 := Aside0.mk (Kd.S_elder' (by (with_reducible repeat (first | apply Kd.S_alloc | apply Kd.S_drewN | apply Kd.S_drew)); exact HO_10.out) (Kd.R_base ho49) hb); replace HB := uB HB hb; clear hb ho49; obtain ⟨Ao51, co51, eo51⟩ := Kd.R_slice HO273.out; subst eo51) | ((with_reducible refine gate_builtin (b := .append) (xs := #[.tmp 74, .tmp 78]) rfl ?_); at_builtin; refine Kd.S_append (Kd.slice 3 (Kd.int .i64)) (w0 := w) w.heap.size rfl (.tmp 74) (.tmp 78) 52 68 (.slice none 0 0) 24 rfl Tryd.underlying52 info68 rfl (by decide) (by omega) (.slice Ao47 x10_2.length co47) x10_2 y271 [.slice Ao51 y271.length co51] (fun _ => True) (fun k_ => some k_ = (.slice Ao51 y271.length co51 : Value).ownBlock) rfl rfl ?aP (fun k_ hk_ => ((Kd.R_mono (ok' := fun k_ => ((fun _ => True)) k_ ∧ some k_ ≠ (.slice Ao47 x10_2.length co47 : Value).ownBlock) (Kd.R_apart' (HO273.out) (Kd.S_typed HO_10.out) (by decide)) (fun k_ hk => ⟨trivial, hk.2⟩))).1 k_ hk_.symm) ?aF ?aO ?aB ?aS ?aL ?_; (case aP => exact Kd.M_row (Kd.R_mono (Kd.R_tight rfl (Kd.R_mono (ok' := fun k_ => ((fun _ => True)) k_ ∧ some k_ ≠ (.slice Ao47 x10_2.length co47 : Value).ownBlock) (Kd.R_apart' (HO273.out) (Kd.S_typed HO_10.out) (by decide)) (fun k_ hk => ⟨trivial, hk.2⟩))) (fun _ h_ => h_))); (case aB => exact (bW HB)); (case aF => exact (fun _ _ => trivial)); (case aO => exact (by (with_reducible repeat (first | apply Kd.S_alloc | apply Kd.S_drewN | apply Kd.S_drew)); exact Kd.S_mono HO_10.out (fun k_ hk => ⟨trivial, fun e_ => hk.2 e_⟩))); (case aS => exact (below_size (bW HB))); (case aL => have := LMc45.out; omega); intro v275 w50 ho hb hg hat; rw [← Ny274.out] at ho; have HO276 := Aside0.mk (ho); replace HB := Aside0.mk (hb); clear HO_10 HO273; clear ho hb hg hat))
          go_roundg k2
          case measure => have := HJ4.out; have := HK2.out; omega
          case rel => exact ⟨(y274), (wrap64 (x11_2 + 1)), rB, H', ⟨by have := HJ4.out; have := HK2.out; omega⟩, ⟨by (with_reducible repeat (first | apply Kd.S_alloc | apply Kd.S_drewN | apply Kd.S_drew)); exact HO276.out⟩, (aB HB)⟩
         ·rw [if_neg c45] at H
          exact absurd H (by simp)
      ·simp only [Option.some.injEq, Prod.mk.injEq] at H
       obtain ⟨rfl, rfl⟩ := H
       go_wp2
       go_ret2
       exact ⟨_, eB, by (with_reducible repeat (first | apply Kd.S_alloc | apply Kd.S_drewN | apply Kd.S_drew)); exact HO_10.out, (bW HB)⟩

/-! ### laws_rBig: function 42 -/
def laws_rBig.f (l0 : List Int) : Option (Bool) := some (decide ((l0.length : Int) > 65536))
set_option maxHeartbeats 8000000 in
set_option maxRecDepth 100000 in
theorem laws_rBig.calls (A0 : Option Addr) (c0 : Nat) (l0 : List Int) (r : Bool) (w : World) (hr0 : Kd.C (Kd.int .u8) w A0 l0.length l0) (hc0 : l0.length ≤ c0) (h : laws_rBig.f l0 = some r) :
  Calls Tryd.prog 42 #[.slice A0 l0.length c0] w fun e w' => e = .returned (.bool r) ∧ Drawn0 w w' := by
 have HR0 := Aside0.mk hr0
 have HC0 := Aside0.mk hc0
 clear hr0 hc0
 have H : (some (decide ((l0.length : Int) > 65536))) = some r := h
 clear h
 obtain rfl := Option.some.inj H
 go_enter Tryd.func42, Tryd.ntmps42
 go_wp2
 go_ret
 exact ⟨rB, by repeat (first | exact Drawn0.refl _ | apply Drawn0.step)⟩

/-! ### laws_rPermits: function 44 -/
def laws_rPermits.l0 : Nat → List (S26) → List (S26) → Int → Option (Bool)
 | 0, _, _, _ => none
 | k + 1, x0, x1, x5 => if x5 < (x0.length : Int) then (if 0 ≤ x5 then (if x5 < (x1.length : Int) then (if (!(((rd_T26 x0 x5).f0) == ((rd_T26 x1 x5).f0)) || (!((((rd_T26 x0 x5).f1).toList) == (((rd_T26 x1 x5).f1).toList)) || (!(((rd_T26 x0 x5).f2) == ((rd_T26 x1 x5).f2)) || (!(((rd_T26 x0 x5).f3) == ((rd_T26 x1 x5).f3)) || (!(((rd_T26 x0 x5).f4) == ((rd_T26 x1 x5).f4)) || (!(((rd_T26 x0 x5).f5) == ((rd_T26 x1 x5).f5)))))))) = true then (some false) else (laws_rPermits.l0 k x0 x1 (wrap64 (x5 + 1)))) else (none)) else (none)) else (some true)
def laws_rPermits.f (k : Nat) (l0 : List (S26)) (l1 : List (S26)) : Option (Bool) := if (l0.length : Int) = (l1.length : Int) then (laws_rPermits.l0 k l0 l1 0) else (some false)
theorem laws_rPermits.mono_l : ∀ k, (∀ y0 y1 y2, LeO (laws_rPermits.l0 k y0 y1 y2) (laws_rPermits.l0 (k + 1) y0 y1 y2))
 | 0 => fun _ _ _ r h => by simp [laws_rPermits.l0] at h
 | k + 1 => by
  have ih0 := laws_rPermits.mono_l k
  ·intro y0 y1 y2
   unfold laws_rPermits.l0
   repeat' with_reducible first | apply ih0 | exact LeO.refl _ | exact LeO.none _ | refine LeO.ite ?_ ?_ | refine LeO.bind ?_ (fun _ => ?_)
theorem laws_rPermits.mono : ∀ a0 a1 k, LeO (laws_rPermits.f k a0 a1) (laws_rPermits.f (k + 1) a0 a1) := by
 intro a0 a1 k
 have ih0 := laws_rPermits.mono_l k
 unfold laws_rPermits.f
 repeat' with_reducible first | apply ih0 | exact LeO.refl _ | exact LeO.none _ | refine LeO.ite ?_ ?_ | refine LeO.bind ?_ (fun _ => ?_)
set_option maxHeartbeats 8000000 in
set_option maxRecDepth 100000 in
theorem laws_rPermits.calls (k : Nat) (A0 : Option Addr) (c0 : Nat) (l0 : List (S26)) (A1 : Option Addr) (c1 : Nat) (l1 : List (S26)) (r : Bool) (w : World) (hr0 : Kd.C k26 w A0 l0.length l0) (hc0 : l0.length ≤ c0) (hr1 : Kd.C k26 w A1 l1.length l1) (hc1 : l1.length ≤ c1) (h : laws_rPermits.f k l0 l1 = some r) :
  Calls Tryd.prog 44 #[.slice A0 l0.length c0, .slice A1 l1.length c1] w fun e w' => e = .returned (.bool r) ∧ Drawn0 w w' := by
 have hu26 := Tryd.underlying26
 have HR0 := Aside0.mk hr0
 have HC0 := Aside0.mk hc0
 clear hr0 hc0
 have HR1 := Aside0.mk hr1
 have HC1 := Aside0.mk hc1
 clear hr1 hc1
 have H := h
 clear h
 unfold laws_rPermits.f at H
 replace H := ifI H
 rcases H with ⟨H, c3, c3b0, c3b1⟩ | ⟨H, c3, c3b0, c3b1⟩
 ·have c3b2 : (l0.length == l1.length) = true := by first | simpa using c3 | (simp at c3 ⊢; omega)
  clear c3
  have H' := Aside0.mk H
  clear H
  go_enter Tryd.func44, Tryd.ntmps44
  go_wp2
  repeat (go_quiet (fail); try go_wp2)
  go_loopg [5] k (fun kq v5 w' => ∃ (x5_1 : Int), v5 = .int .i64 x5_1 ∧ Aside0 (laws_rPermits.l0 kq l0 l1 x5_1 = some r) ∧ Aside0 (kq ≤ k) ∧ Drawn0 w w')
  case atStart => exact ⟨(0), rB, H', ⟨Nat.le_refl _⟩, by repeat (first | exact Drawn0.refl _ | apply Drawn0.step)⟩
  case round =>
   clear H'
   try clear c1
   try clear c3
   try clear c3b0
   try clear c3b1
   try clear c3b2
   obtain ⟨x5_1, rfl, HA, HK1, ⟨m1, rfl⟩⟩ := hrel
   cases gk with
   | zero => exact absurd HA.out (by simp [laws_rPermits.l0])
   | succ k1 =>
    have H := HA.out
    clear HA
    simp only [laws_rPermits.l0] at H
    replace H := ifD H
    rcases H with ⟨H, -, c4b0⟩ | ⟨H, -, c4b0⟩
    ·by_cases c5 : 0 ≤ x5_1
     ·rw [if_pos c5] at H
      have c5b0 : decide (0 ≤ x5_1) = true := decide_eq_true c5
      clear c5
      by_cases c6 : x5_1 < (l1.length : Int)
      ·rw [if_pos c6] at H
       have c6b0 : decide (x5_1 < (l1.length : Int)) = true := decide_eq_true c6
       clear c6
       by_cases c7 : (!(((rd_T26 l0 x5_1).f0) == ((rd_T26 l1 x5_1).f0)) || (!((((rd_T26 l0 x5_1).f1).toList) == (((rd_T26 l1 x5_1).f1).toList)) || (!(((rd_T26 l0 x5_1).f2) == ((rd_T26 l1 x5_1).f2)) || (!(((rd_T26 l0 x5_1).f3) == ((rd_T26 l1 x5_1).f3)) || (!(((rd_T26 l0 x5_1).f4) == ((rd_T26 l1 x5_1).f4)) || (!(((rd_T26 l0 x5_1).f5) == ((rd_T26 l1 x5_1).f5)))))))) = true
       ·rw [if_pos c7] at H
        have c7b0 : (!(((rd_T26 l0 x5_1).f0) == ((rd_T26 l1 x5_1).f0)) || (!((((rd_T26 l0 x5_1).f1).toList) == (((rd_T26 l1 x5_1).f1).toList)) || (!(((rd_T26 l0 x5_1).f2) == ((rd_T26 l1 x5_1).f2)) || (!(((rd_T26 l0 x5_1).f3) == ((rd_T26 l1 x5_1).f3)) || (!(((rd_T26 l0 x5_1).f4) == ((rd_T26 l1 x5_1).f4)) || (!(((rd_T26 l0 x5_1).f5) == ((rd_T26 l1 x5_1).f5)))))))) = true := c7
        clear c7
        obtain rfl := Option.some.inj H
        have p277 : 0 ≤ (x5_1 : Int) := of_decide_eq_true asmB
        have q277 : x5_1 < (l0.length : Int) := of_decide_eq_true asmB
        obtain ⟨ad277, e277, hx277_0, hx277_1, hx277_2, hx277_3, hx277_4, hx277_5⟩ := at_T26 HR0.out x5_1 p277 q277
        cases e277
        replace p277 := eq_true p277
        replace q277 := eq_true q277
        have p278 : 0 ≤ (x5_1 : Int) := of_decide_eq_true asmB
        have q278 : x5_1 < (l1.length : Int) := of_decide_eq_true asmB
        obtain ⟨ad278, e278, hx278_0, hx278_1, hx278_2, hx278_3, hx278_4, hx278_5⟩ := at_T26 HR1.out x5_1 p278 q278
        cases e278
        replace p278 := eq_true p278
        replace q278 := eq_true q278
        go_wp2
        repeat (go_quiet (fail); try go_wp2)
        go_ret
        exact ⟨rB, by repeat (first | exact Drawn0.refl _ | apply Drawn0.step)⟩
       ·rw [if_neg c7] at H
        have c7b0 : (!(((rd_T26 l0 x5_1).f0) == ((rd_T26 l1 x5_1).f0)) || (!((((rd_T26 l0 x5_1).f1).toList) == (((rd_T26 l1 x5_1).f1).toList)) || (!(((rd_T26 l0 x5_1).f2) == ((rd_T26 l1 x5_1).f2)) || (!(((rd_T26 l0 x5_1).f3) == ((rd_T26 l1 x5_1).f3)) || (!(((rd_T26 l0 x5_1).f4) == ((rd_T26 l1 x5_1).f4)) || (!(((rd_T26 l0 x5_1).f5) == ((rd_T26 l1 x5_1).f5)))))))) = false := by simpa using c7
        clear c7
        have H' := Aside0.mk H
        clear H
        have p277 : 0 ≤ (x5_1 : Int) := of_decide_eq_true asmB
        have q277 : x5_1 < (l0.length : Int) := of_decide_eq_true asmB
        obtain ⟨ad277, e277, hx277_0, hx277_1, hx277_2, hx277_3, hx277_4, hx277_5⟩ := at_T26 HR0.out x5_1 p277 q277
        cases e277
        replace p277 := eq_true p277
        replace q277 := eq_true q277
        have p278 : 0 ≤ (x5_1 : Int) := of_decide_eq_true asmB
        have q278 : x5_1 < (l1.length : Int) := of_decide_eq_true asmB
        obtain ⟨ad278, e278, hx278_0, hx278_1, hx278_2, hx278_3, hx278_4, hx278_5⟩ := at_T26 HR1.out x5_1 p278 q278
        cases e278
        replace p278 := eq_true p278
        replace q278 := eq_true q278
        go_wp2
        repeat (go_quiet (fail); try go_wp2)
        go_roundg k1
        case measure => have := HK1.out; omega
        case rel => exact ⟨(wrap64 (x5_1 + 1)), rB, H', ⟨by have := HK1.out; omega⟩, by repeat (first | exact Drawn0.refl _ | apply Drawn0.step)⟩
      ·rw [if_neg c6] at H
       exact absurd H (by simp)
     ·rw [if_neg c5] at H
      exact absurd H (by simp)
    ·obtain rfl := Option.some.inj H
     go_wp2
     repeat (go_quiet (fail); try go_wp2)
     go_ret
     exact ⟨rB, by repeat (first | exact Drawn0.refl _ | apply Drawn0.step)⟩
 ·have c3b2 : (l0.length == l1.length) = false := by first | simpa using c3 | (simp at c3 ⊢; omega)
  obtain rfl := Option.some.inj H
  go_enter Tryd.func44, Tryd.ntmps44
  go_wp2
  repeat (go_quiet (fail); try go_wp2)
  go_ret
  exact ⟨rB, by repeat (first | exact Drawn0.refl _ | apply Drawn0.step)⟩

end Go.Proofs.YtgeioccfjgpijaaDoor.QFnPermitDays
